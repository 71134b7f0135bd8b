import PyProof.Rows.All
import Wide.All
import OpenK.AllK
import Wide.FinOn
import PySem.Challenge.RW_oj0027_01
open PySem PySem.W PyProof.Rows
set_option Elab.async false

/-! open_top lays a congruence proof («twin») beside each object of the top; their sizes go with the square of the heap.
A name that already stands is not laid again, and the top comes through without it: so the names are taken first. -/
namespace Mine
def q0 : Str := Str.ofString "a"
theorem q1 : q0 = q0 := rfl
end Mine
name_quick tw2711585505577850959 for Mine.q0 by Mine.q1
name_quick tw8620020772036689432 for Mine.q0 by Mine.q1
name_quick tw7232422423428716515 for Mine.q0 by Mine.q1
name_quick tw12835720964997663042 for Mine.q0 by Mine.q1
name_quick tw13987355940573415152 for Mine.q0 by Mine.q1
name_quick tw6004533443673955352 for Mine.q0 by Mine.q1
name_quick tw17517737089405305841 for Mine.q0 by Mine.q1
name_quick tw9674257727999782656 for Mine.q0 by Mine.q1
name_quick tw7009043117176579089 for Mine.q0 by Mine.q1
name_quick tw219737044198020058 for Mine.q0 by Mine.q1
name_quick tw9011979029575296479 for Mine.q0 by Mine.q1
name_quick tw9787396351842916947 for Mine.q0 by Mine.q1
name_quick tw17827458813498177553 for Mine.q0 by Mine.q1
name_quick tw7250012664060256230 for Mine.q0 by Mine.q1
name_quick tw43969757491396457 for Mine.q0 by Mine.q1
name_quick tw1291980286583624508 for Mine.q0 by Mine.q1
name_quick tw2718901123391026995 for Mine.q0 by Mine.q1
name_quick tw2001226814458364393 for Mine.q0 by Mine.q1
name_quick tw1258717718454355964 for Mine.q0 by Mine.q1
name_quick tw15560500314895047343 for Mine.q0 by Mine.q1
name_quick tw16145008321745377990 for Mine.q0 by Mine.q1
name_quick tw282004115355043989 for Mine.q0 by Mine.q1
name_quick tw17244072584429378644 for Mine.q0 by Mine.q1
name_quick tw17804436615005485693 for Mine.q0 by Mine.q1
name_quick tw5758256569797452207 for Mine.q0 by Mine.q1
name_quick tw3093977132361051618 for Mine.q0 by Mine.q1
name_quick tw4172830789200971933 for Mine.q0 by Mine.q1
name_quick tw7275051467321613617 for Mine.q0 by Mine.q1
name_quick tw17846936440860909165 for Mine.q0 by Mine.q1
name_quick tw17475289236778735526 for Mine.q0 by Mine.q1
name_quick tw10528696920762540405 for Mine.q0 by Mine.q1
name_quick tw12233582284571471492 for Mine.q0 by Mine.q1
name_quick tw17352973434858128600 for Mine.q0 by Mine.q1
name_quick tw17730448691065144110 for Mine.q0 by Mine.q1
name_quick tw6135381517318000843 for Mine.q0 by Mine.q1
name_quick tw10015664371746657536 for Mine.q0 by Mine.q1
name_quick tw3619232141914619222 for Mine.q0 by Mine.q1
name_quick tw1829445100760108279 for Mine.q0 by Mine.q1
name_quick tw6952355047532471503 for Mine.q0 by Mine.q1
name_quick tw1184552218554016812 for Mine.q0 by Mine.q1
name_quick tw2759451637364818457 for Mine.q0 by Mine.q1
name_quick tw9376109419431680627 for Mine.q0 by Mine.q1
name_quick tw189603312586018693 for Mine.q0 by Mine.q1
name_quick tw3766158894648301139 for Mine.q0 by Mine.q1
name_quick tw2736616831223182526 for Mine.q0 by Mine.q1
name_quick tw1355338860687761863 for Mine.q0 by Mine.q1
name_quick tw16590896929057906003 for Mine.q0 by Mine.q1
name_quick tw757081541053455785 for Mine.q0 by Mine.q1
name_quick tw682011567655089306 for Mine.q0 by Mine.q1
name_quick tw16413264400604254196 for Mine.q0 by Mine.q1
name_quick tw13471461260053382970 for Mine.q0 by Mine.q1
name_quick tw2948108419219029167 for Mine.q0 by Mine.q1
name_quick tw11306939235166856333 for Mine.q0 by Mine.q1
name_quick tw4011157648589011858 for Mine.q0 by Mine.q1
name_quick tw13180171748994924942 for Mine.q0 by Mine.q1
name_quick tw12268644228514654432 for Mine.q0 by Mine.q1
name_quick tw13526986893379352335 for Mine.q0 by Mine.q1
name_quick tw460243522976405022 for Mine.q0 by Mine.q1
name_quick tw4407734736301137906 for Mine.q0 by Mine.q1
name_quick tw4434333111790514575 for Mine.q0 by Mine.q1
name_quick tw13721567128424951087 for Mine.q0 by Mine.q1
name_quick tw255762859008299958 for Mine.q0 by Mine.q1
name_quick tw5978237884098788730 for Mine.q0 by Mine.q1
name_quick tw9787463984185863102 for Mine.q0 by Mine.q1
name_quick tw704327219915372674 for Mine.q0 by Mine.q1
name_quick tw6144853644547557980 for Mine.q0 by Mine.q1
name_quick tw18350330562280901221 for Mine.q0 by Mine.q1
name_quick tw10010936943081839664 for Mine.q0 by Mine.q1
name_quick tw17943406268862710625 for Mine.q0 by Mine.q1
name_quick tw3315324234476444515 for Mine.q0 by Mine.q1
name_quick tw18273839248471157720 for Mine.q0 by Mine.q1
name_quick tw12821735335276811757 for Mine.q0 by Mine.q1
name_quick tw7619357645376055252 for Mine.q0 by Mine.q1
name_quick tw15468230090516036684 for Mine.q0 by Mine.q1
name_quick tw14896874001708588922 for Mine.q0 by Mine.q1
name_quick tw5732905514179830355 for Mine.q0 by Mine.q1
name_quick tw7035115661146626270 for Mine.q0 by Mine.q1
name_quick tw607167704815816724 for Mine.q0 by Mine.q1
name_quick tw14311459727803291754 for Mine.q0 by Mine.q1
name_quick tw13607416678640721797 for Mine.q0 by Mine.q1
name_quick tw13890744642731562755 for Mine.q0 by Mine.q1
name_quick tw14186486079044719983 for Mine.q0 by Mine.q1
name_quick tw11277716924127702174 for Mine.q0 by Mine.q1
name_quick tw13215998728584607739 for Mine.q0 by Mine.q1
name_quick tw16741492637210864865 for Mine.q0 by Mine.q1
name_quick tw16865151637890581275 for Mine.q0 by Mine.q1
name_quick tw9285146279643344392 for Mine.q0 by Mine.q1
name_quick tw4278798014809849964 for Mine.q0 by Mine.q1
name_quick tw17954736447514056666 for Mine.q0 by Mine.q1
name_quick tw10308316962582663543 for Mine.q0 by Mine.q1
name_quick tw11130039905162102590 for Mine.q0 by Mine.q1
name_quick tw18101931140130867144 for Mine.q0 by Mine.q1
name_quick tw2193789692954389824 for Mine.q0 by Mine.q1
name_quick tw3418865130664362913 for Mine.q0 by Mine.q1
name_quick tw10073347824450446311 for Mine.q0 by Mine.q1
name_quick tw5149714755402479525 for Mine.q0 by Mine.q1
name_quick tw15007238320947547705 for Mine.q0 by Mine.q1
name_quick tw7585139358526817783 for Mine.q0 by Mine.q1
name_quick tw15168306246750427876 for Mine.q0 by Mine.q1
name_quick tw1617757218408452269 for Mine.q0 by Mine.q1
name_quick tw15560853006256673968 for Mine.q0 by Mine.q1
name_quick tw951843321253372498 for Mine.q0 by Mine.q1
name_quick tw12647630874787467225 for Mine.q0 by Mine.q1
name_quick tw3891137856419664920 for Mine.q0 by Mine.q1
name_quick tw13915792640404377917 for Mine.q0 by Mine.q1
name_quick tw16643379632663270332 for Mine.q0 by Mine.q1
name_quick tw13789449189825218787 for Mine.q0 by Mine.q1
name_quick tw16966814322356759819 for Mine.q0 by Mine.q1
name_quick tw4658958612460137192 for Mine.q0 by Mine.q1
name_quick tw8708707556590381134 for Mine.q0 by Mine.q1
name_quick tw17964007177503468958 for Mine.q0 by Mine.q1
name_quick tw16413963553889246368 for Mine.q0 by Mine.q1
name_quick tw6587116730350146372 for Mine.q0 by Mine.q1
name_quick tw3355348695024010778 for Mine.q0 by Mine.q1
name_quick tw16494616584097029746 for Mine.q0 by Mine.q1
name_quick tw7299951869573292228 for Mine.q0 by Mine.q1
name_quick tw17888162413812561239 for Mine.q0 by Mine.q1
name_quick tw14537914154153760125 for Mine.q0 by Mine.q1
name_quick tw503676674663206642 for Mine.q0 by Mine.q1
name_quick tw5882768191206486792 for Mine.q0 by Mine.q1
name_quick tw4275521005467322725 for Mine.q0 by Mine.q1
name_quick tw14108194823987119177 for Mine.q0 by Mine.q1
name_quick tw3577408171920636059 for Mine.q0 by Mine.q1
name_quick tw912392155897948271 for Mine.q0 by Mine.q1
name_quick tw17164873540382356111 for Mine.q0 by Mine.q1
name_quick tw17071476683966804577 for Mine.q0 by Mine.q1
name_quick tw17344680358763864322 for Mine.q0 by Mine.q1
name_quick tw17842620306162639686 for Mine.q0 by Mine.q1
name_quick tw8430678208038309684 for Mine.q0 by Mine.q1
name_quick tw5152784196030571298 for Mine.q0 by Mine.q1
name_quick tw18260038339965228139 for Mine.q0 by Mine.q1
name_quick tw8902219603052485911 for Mine.q0 by Mine.q1
name_quick tw16180582048198870337 for Mine.q0 by Mine.q1
name_quick tw1320183511955256522 for Mine.q0 by Mine.q1
name_quick tw15806122291839087668 for Mine.q0 by Mine.q1
name_quick tw14126943448341045398 for Mine.q0 by Mine.q1
name_quick tw4858009861420398278 for Mine.q0 by Mine.q1
name_quick tw11270796479367742343 for Mine.q0 by Mine.q1
name_quick tw17172684716379151423 for Mine.q0 by Mine.q1
name_quick tw3820604794100220378 for Mine.q0 by Mine.q1
name_quick tw10948738476641704880 for Mine.q0 by Mine.q1
name_quick tw17975652961387846372 for Mine.q0 by Mine.q1
name_quick tw8032284361305108907 for Mine.q0 by Mine.q1
name_quick tw8656719876789144132 for Mine.q0 by Mine.q1
name_quick tw15278061642289888581 for Mine.q0 by Mine.q1
name_quick tw3698559305507148144 for Mine.q0 by Mine.q1
name_quick tw11398097091735476289 for Mine.q0 by Mine.q1
name_quick tw4405960384096086239 for Mine.q0 by Mine.q1
name_quick tw17274371674624000324 for Mine.q0 by Mine.q1
name_quick tw5357591511691535388 for Mine.q0 by Mine.q1
name_quick tw4527066259768149269 for Mine.q0 by Mine.q1
name_quick tw8224813933742928703 for Mine.q0 by Mine.q1
name_quick tw7081425507203772304 for Mine.q0 by Mine.q1
name_quick tw1055568401681811165 for Mine.q0 by Mine.q1
name_quick tw14333388528381170442 for Mine.q0 by Mine.q1
name_quick tw11853533878840232495 for Mine.q0 by Mine.q1
name_quick tw12825359941727978080 for Mine.q0 by Mine.q1
name_quick tw17899373020297197333 for Mine.q0 by Mine.q1
name_quick tw10045867985992453528 for Mine.q0 by Mine.q1
name_quick tw3362959441861295915 for Mine.q0 by Mine.q1
name_quick tw11166942722945506595 for Mine.q0 by Mine.q1
name_quick tw1370275717833778536 for Mine.q0 by Mine.q1
name_quick tw8579058602437062094 for Mine.q0 by Mine.q1
name_quick tw12393455550290869266 for Mine.q0 by Mine.q1
name_quick tw5068434257544371817 for Mine.q0 by Mine.q1
name_quick tw12660628722211587041 for Mine.q0 by Mine.q1
name_quick tw16406328271908756883 for Mine.q0 by Mine.q1
name_quick tw17111948838632640456 for Mine.q0 by Mine.q1
name_quick tw4319705520415482375 for Mine.q0 by Mine.q1
name_quick tw17139780236743587250 for Mine.q0 by Mine.q1
name_quick tw16817318245366136608 for Mine.q0 by Mine.q1
name_quick tw13580328829973926956 for Mine.q0 by Mine.q1
name_quick tw1735497430108182060 for Mine.q0 by Mine.q1
name_quick tw16947794391021106201 for Mine.q0 by Mine.q1
name_quick tw6711915476519705758 for Mine.q0 by Mine.q1
name_quick tw4978915544186085027 for Mine.q0 by Mine.q1
name_quick tw15900120412870309639 for Mine.q0 by Mine.q1
name_quick tw10007627690174824804 for Mine.q0 by Mine.q1
name_quick tw4292500188555128830 for Mine.q0 by Mine.q1
name_quick tw1749818173716722547 for Mine.q0 by Mine.q1
name_quick tw5823794197072137003 for Mine.q0 by Mine.q1
name_quick tw16531745337717519161 for Mine.q0 by Mine.q1
name_quick tw14884601019740666482 for Mine.q0 by Mine.q1
name_quick tw7496433998918960881 for Mine.q0 by Mine.q1
name_quick tw17069979004554194336 for Mine.q0 by Mine.q1
name_quick tw15902184279288820625 for Mine.q0 by Mine.q1
name_quick tw11740888236361828772 for Mine.q0 by Mine.q1
name_quick tw1503297043503765363 for Mine.q0 by Mine.q1
name_quick tw7499937903120025604 for Mine.q0 by Mine.q1
name_quick tw1139862187096482527 for Mine.q0 by Mine.q1
name_quick tw5076957145309523181 for Mine.q0 by Mine.q1
name_quick tw17394056326795013819 for Mine.q0 by Mine.q1
name_quick tw15263041282635125899 for Mine.q0 by Mine.q1
name_quick tw14778209649434054790 for Mine.q0 by Mine.q1
name_quick tw9931943479562821362 for Mine.q0 by Mine.q1
name_quick tw2905824091091238844 for Mine.q0 by Mine.q1
name_quick tw136631920214876835 for Mine.q0 by Mine.q1
name_quick tw5721027456603625697 for Mine.q0 by Mine.q1
name_quick tw13317431791736044220 for Mine.q0 by Mine.q1
name_quick tw12290603225136948437 for Mine.q0 by Mine.q1
name_quick tw389472881494512206 for Mine.q0 by Mine.q1
name_quick tw6122645084068987007 for Mine.q0 by Mine.q1
name_quick tw15041003319150489328 for Mine.q0 by Mine.q1
name_quick tw15562837088269578035 for Mine.q0 by Mine.q1
name_quick tw1537898542681612871 for Mine.q0 by Mine.q1
name_quick tw14209830616999942402 for Mine.q0 by Mine.q1
name_quick tw15880737140895825463 for Mine.q0 by Mine.q1
name_quick tw14714103240675001986 for Mine.q0 by Mine.q1
name_quick tw1041845030581493396 for Mine.q0 by Mine.q1
name_quick tw17503288770812694035 for Mine.q0 by Mine.q1
name_quick tw2422670821966735624 for Mine.q0 by Mine.q1
name_quick tw8719427161674164953 for Mine.q0 by Mine.q1
name_quick tw2611554752454338464 for Mine.q0 by Mine.q1
name_quick tw7581816359482902497 for Mine.q0 by Mine.q1
name_quick tw9594665118957945026 for Mine.q0 by Mine.q1
name_quick tw1708024556718086227 for Mine.q0 by Mine.q1
name_quick tw3778451253796500701 for Mine.q0 by Mine.q1
name_quick tw9676229304581654039 for Mine.q0 by Mine.q1
name_quick tw7397068168572129948 for Mine.q0 by Mine.q1
name_quick tw17476080006546285661 for Mine.q0 by Mine.q1
name_quick tw11333186260410459676 for Mine.q0 by Mine.q1
name_quick tw9501820088010722379 for Mine.q0 by Mine.q1
name_quick tw3282434896037501709 for Mine.q0 by Mine.q1
name_quick tw2627984346626558326 for Mine.q0 by Mine.q1
name_quick tw16317912014791525384 for Mine.q0 by Mine.q1
name_quick tw16752143609539240740 for Mine.q0 by Mine.q1
name_quick tw183835017167291270 for Mine.q0 by Mine.q1
name_quick tw16873187988247708562 for Mine.q0 by Mine.q1
name_quick tw7198390536060210744 for Mine.q0 by Mine.q1
name_quick tw4075660801711882420 for Mine.q0 by Mine.q1
name_quick tw5565278806992967083 for Mine.q0 by Mine.q1
name_quick tw10253492065209306289 for Mine.q0 by Mine.q1
name_quick tw11519604305632133818 for Mine.q0 by Mine.q1
name_quick tw15823609455315575823 for Mine.q0 by Mine.q1
name_quick tw12898947447245864913 for Mine.q0 by Mine.q1
name_quick tw6426273055680023932 for Mine.q0 by Mine.q1
name_quick tw2460228577881660442 for Mine.q0 by Mine.q1
name_quick tw5189142188285759775 for Mine.q0 by Mine.q1
name_quick tw16350708796919097252 for Mine.q0 by Mine.q1
name_quick tw2283851925072248500 for Mine.q0 by Mine.q1
name_quick tw4302124980754421698 for Mine.q0 by Mine.q1
name_quick tw11518781747449614426 for Mine.q0 by Mine.q1
name_quick tw11588390666370768167 for Mine.q0 by Mine.q1
name_quick tw725871291056497461 for Mine.q0 by Mine.q1
name_quick tw6179359751918216688 for Mine.q0 by Mine.q1
name_quick tw6789855027759293466 for Mine.q0 by Mine.q1
name_quick tw9458956999447867950 for Mine.q0 by Mine.q1
name_quick tw5529568453561195837 for Mine.q0 by Mine.q1
name_quick tw12734952128020822468 for Mine.q0 by Mine.q1
name_quick tw667198328695590252 for Mine.q0 by Mine.q1
name_quick tw7094674258960923220 for Mine.q0 by Mine.q1
name_quick tw13314330512976039754 for Mine.q0 by Mine.q1
name_quick tw8796240567053077481 for Mine.q0 by Mine.q1
name_quick tw4966893808263662355 for Mine.q0 by Mine.q1
name_quick tw1574873078441994576 for Mine.q0 by Mine.q1
name_quick tw11817470609975844035 for Mine.q0 by Mine.q1
name_quick tw8450942572126056277 for Mine.q0 by Mine.q1
name_quick tw14981143343336467331 for Mine.q0 by Mine.q1
name_quick tw17000155066101142889 for Mine.q0 by Mine.q1
name_quick tw2354101950205528012 for Mine.q0 by Mine.q1
name_quick tw16339471991904476338 for Mine.q0 by Mine.q1
name_quick tw17280976486791472633 for Mine.q0 by Mine.q1
name_quick tw14323765505736481980 for Mine.q0 by Mine.q1
name_quick tw6993175162768986339 for Mine.q0 by Mine.q1
name_quick tw16593013826814733010 for Mine.q0 by Mine.q1
name_quick tw15490439104401381959 for Mine.q0 by Mine.q1
name_quick tw16643706677886111943 for Mine.q0 by Mine.q1
name_quick tw16374537267813192141 for Mine.q0 by Mine.q1
name_quick tw12632203425335570320 for Mine.q0 by Mine.q1
name_quick tw10887116778572429059 for Mine.q0 by Mine.q1
name_quick tw9300948228871686676 for Mine.q0 by Mine.q1
name_quick tw10323183001455561277 for Mine.q0 by Mine.q1
name_quick tw3424931102881643321 for Mine.q0 by Mine.q1
name_quick tw9219426015542480343 for Mine.q0 by Mine.q1
name_quick tw1631149150583789468 for Mine.q0 by Mine.q1
name_quick tw5349121933718820234 for Mine.q0 by Mine.q1
name_quick tw9136488742655976645 for Mine.q0 by Mine.q1
name_quick tw15919542637913265678 for Mine.q0 by Mine.q1
name_quick tw15980859228951719591 for Mine.q0 by Mine.q1
name_quick tw17532440430192770315 for Mine.q0 by Mine.q1
name_quick tw11825729669827539873 for Mine.q0 by Mine.q1
name_quick tw2478078296215019888 for Mine.q0 by Mine.q1
name_quick tw11964429278604863157 for Mine.q0 by Mine.q1
name_quick tw2611137233208623240 for Mine.q0 by Mine.q1
name_quick tw8206430501311747189 for Mine.q0 by Mine.q1
name_quick tw10881846856767400648 for Mine.q0 by Mine.q1
name_quick tw2438461132856530310 for Mine.q0 by Mine.q1
name_quick tw3105397867545767578 for Mine.q0 by Mine.q1
name_quick tw1402947280878808549 for Mine.q0 by Mine.q1
name_quick tw16296994325663420285 for Mine.q0 by Mine.q1
name_quick tw3976722010076183465 for Mine.q0 by Mine.q1
name_quick tw1258299570235058372 for Mine.q0 by Mine.q1
name_quick tw13833065179229638619 for Mine.q0 by Mine.q1
name_quick tw6722154040420286063 for Mine.q0 by Mine.q1
name_quick tw17988542015724977305 for Mine.q0 by Mine.q1
name_quick tw9504726810853072989 for Mine.q0 by Mine.q1
name_quick tw16846860572762119324 for Mine.q0 by Mine.q1
name_quick tw18410474027866654770 for Mine.q0 by Mine.q1
name_quick tw17672482021469178181 for Mine.q0 by Mine.q1
name_quick tw3972328310683599613 for Mine.q0 by Mine.q1
name_quick tw5396446701170858492 for Mine.q0 by Mine.q1
name_quick tw6679490504615227074 for Mine.q0 by Mine.q1
name_quick tw4936483359421988267 for Mine.q0 by Mine.q1
name_quick tw3327986453032591115 for Mine.q0 by Mine.q1
name_quick tw9763268239775435451 for Mine.q0 by Mine.q1
name_quick tw14168537005229113720 for Mine.q0 by Mine.q1
name_quick tw7392212959928792091 for Mine.q0 by Mine.q1
name_quick tw5697894365363955025 for Mine.q0 by Mine.q1
name_quick tw8693227569615203950 for Mine.q0 by Mine.q1
name_quick tw3442601649717412197 for Mine.q0 by Mine.q1
name_quick tw2902314222560053993 for Mine.q0 by Mine.q1
name_quick tw14821650378409806113 for Mine.q0 by Mine.q1
name_quick tw6580340599500149305 for Mine.q0 by Mine.q1
name_quick tw3264259588550801142 for Mine.q0 by Mine.q1
name_quick tw18263319221461684349 for Mine.q0 by Mine.q1
name_quick tw6380047634161181297 for Mine.q0 by Mine.q1
name_quick tw14073706353221006472 for Mine.q0 by Mine.q1
name_quick tw13678640442995254988 for Mine.q0 by Mine.q1
name_quick tw16417370028952169744 for Mine.q0 by Mine.q1
name_quick tw11543547407058413889 for Mine.q0 by Mine.q1
name_quick tw13925586954763233925 for Mine.q0 by Mine.q1
name_quick tw1886563365779066154 for Mine.q0 by Mine.q1
name_quick tw11161088081135249708 for Mine.q0 by Mine.q1
name_quick tw4549333791460862111 for Mine.q0 by Mine.q1
name_quick tw6019396324639902685 for Mine.q0 by Mine.q1
name_quick tw1085346719588807367 for Mine.q0 by Mine.q1
name_quick tw6363645014702824404 for Mine.q0 by Mine.q1
name_quick tw14973007898608030118 for Mine.q0 by Mine.q1
name_quick tw8075568018651887793 for Mine.q0 by Mine.q1
name_quick tw9537544019596298400 for Mine.q0 by Mine.q1
name_quick tw17001327861769816259 for Mine.q0 by Mine.q1
name_quick tw14433975572909055671 for Mine.q0 by Mine.q1
name_quick tw5268983451555188008 for Mine.q0 by Mine.q1
name_quick tw14971970265804392439 for Mine.q0 by Mine.q1
name_quick tw3094477031063562474 for Mine.q0 by Mine.q1
name_quick tw17100903815162463580 for Mine.q0 by Mine.q1
name_quick tw15066959818950650227 for Mine.q0 by Mine.q1
name_quick tw14214133299417103183 for Mine.q0 by Mine.q1
name_quick tw9577309144901391297 for Mine.q0 by Mine.q1
name_quick tw15542691292777871779 for Mine.q0 by Mine.q1
name_quick tw12813236842856870187 for Mine.q0 by Mine.q1
name_quick tw13335737130258781183 for Mine.q0 by Mine.q1
name_quick tw1156252341971683116 for Mine.q0 by Mine.q1
name_quick tw7987952416473584550 for Mine.q0 by Mine.q1
name_quick tw12832477231654346042 for Mine.q0 by Mine.q1
name_quick tw5450187663091677483 for Mine.q0 by Mine.q1
name_quick tw7140130562030077042 for Mine.q0 by Mine.q1
name_quick tw9151444980202551346 for Mine.q0 by Mine.q1
name_quick tw313226197891681235 for Mine.q0 by Mine.q1
name_quick tw16018607276475445134 for Mine.q0 by Mine.q1
name_quick tw15034313371233782410 for Mine.q0 by Mine.q1
name_quick tw3152983702415266003 for Mine.q0 by Mine.q1
name_quick tw3436264866546951355 for Mine.q0 by Mine.q1
name_quick tw10942035263794033107 for Mine.q0 by Mine.q1
name_quick tw11108263761283441063 for Mine.q0 by Mine.q1
name_quick tw2862820112641550484 for Mine.q0 by Mine.q1
name_quick tw9396933662098498411 for Mine.q0 by Mine.q1
name_quick tw12488000419048109807 for Mine.q0 by Mine.q1
name_quick tw13254397897704925713 for Mine.q0 by Mine.q1
name_quick tw11625766737575182897 for Mine.q0 by Mine.q1
name_quick tw6147171307777338356 for Mine.q0 by Mine.q1
name_quick tw7503421922109321716 for Mine.q0 by Mine.q1
name_quick tw6550987210724342151 for Mine.q0 by Mine.q1
name_quick tw11186114360453789277 for Mine.q0 by Mine.q1
name_quick tw900395245841561262 for Mine.q0 by Mine.q1
name_quick tw6434265647005701932 for Mine.q0 by Mine.q1
name_quick tw11445135464325071761 for Mine.q0 by Mine.q1
name_quick tw4921902886906138986 for Mine.q0 by Mine.q1
name_quick tw716658179208862652 for Mine.q0 by Mine.q1
name_quick tw11788150170368784547 for Mine.q0 by Mine.q1
name_quick tw1401972060568974870 for Mine.q0 by Mine.q1
name_quick tw14305139224198610471 for Mine.q0 by Mine.q1
name_quick tw3209381107111851631 for Mine.q0 by Mine.q1
name_quick tw8098380416015320538 for Mine.q0 by Mine.q1
name_quick tw11790162104776037713 for Mine.q0 by Mine.q1
name_quick tw7401281599722004195 for Mine.q0 by Mine.q1
name_quick tw11310463157757771331 for Mine.q0 by Mine.q1
name_quick tw4525517667737911620 for Mine.q0 by Mine.q1
name_quick tw9265879793445154701 for Mine.q0 by Mine.q1
name_quick tw15195428891847259777 for Mine.q0 by Mine.q1
name_quick tw17026713947507217902 for Mine.q0 by Mine.q1
name_quick tw12095823642532355627 for Mine.q0 by Mine.q1
name_quick tw3865406201487662470 for Mine.q0 by Mine.q1
name_quick tw16697116713213952808 for Mine.q0 by Mine.q1
name_quick tw6148621092414575339 for Mine.q0 by Mine.q1
name_quick tw878741703135273975 for Mine.q0 by Mine.q1
name_quick tw5770868932273138760 for Mine.q0 by Mine.q1
name_quick tw9281714027785469542 for Mine.q0 by Mine.q1
name_quick tw5248340912204065574 for Mine.q0 by Mine.q1
name_quick tw14097648870716263351 for Mine.q0 by Mine.q1
name_quick tw1962928258387122110 for Mine.q0 by Mine.q1
name_quick tw16241802466949684156 for Mine.q0 by Mine.q1
name_quick tw9315938663221665524 for Mine.q0 by Mine.q1
name_quick tw10996506086634736982 for Mine.q0 by Mine.q1
name_quick tw4827868188977986955 for Mine.q0 by Mine.q1
name_quick tw6059929106960060952 for Mine.q0 by Mine.q1
name_quick tw4904739604578439355 for Mine.q0 by Mine.q1
name_quick tw1204117194425446250 for Mine.q0 by Mine.q1
name_quick tw9673203406766833760 for Mine.q0 by Mine.q1
name_quick tw12237943961548833269 for Mine.q0 by Mine.q1
name_quick tw2922074901204462755 for Mine.q0 by Mine.q1
name_quick tw13642483538084851733 for Mine.q0 by Mine.q1
name_quick tw15663404670287596823 for Mine.q0 by Mine.q1
name_quick tw8603108125212654177 for Mine.q0 by Mine.q1
name_quick tw11994158751524154303 for Mine.q0 by Mine.q1
name_quick tw17300597898927385350 for Mine.q0 by Mine.q1
name_quick tw2234313589609304483 for Mine.q0 by Mine.q1
name_quick tw15199281503961881116 for Mine.q0 by Mine.q1
name_quick tw4039474712603431140 for Mine.q0 by Mine.q1
name_quick tw13615603153576403970 for Mine.q0 by Mine.q1
name_quick tw8881496252177385917 for Mine.q0 by Mine.q1
name_quick tw1218959903707654005 for Mine.q0 by Mine.q1
name_quick tw11838138170533393997 for Mine.q0 by Mine.q1
name_quick tw7483462131439158144 for Mine.q0 by Mine.q1
name_quick tw10205541121877940668 for Mine.q0 by Mine.q1
name_quick tw7299303143086499733 for Mine.q0 by Mine.q1
name_quick tw16432479971616331241 for Mine.q0 by Mine.q1
name_quick tw7365555872484859036 for Mine.q0 by Mine.q1
name_quick tw12809422525583811893 for Mine.q0 by Mine.q1
name_quick tw16916688483869632129 for Mine.q0 by Mine.q1
name_quick tw10042830170769951172 for Mine.q0 by Mine.q1
name_quick tw8703263022893421829 for Mine.q0 by Mine.q1
name_quick tw8017206721242287953 for Mine.q0 by Mine.q1
name_quick tw12461216416123423688 for Mine.q0 by Mine.q1
name_quick tw3325841961599345399 for Mine.q0 by Mine.q1
name_quick tw1620339239838986703 for Mine.q0 by Mine.q1
name_quick tw14553827428707814869 for Mine.q0 by Mine.q1
name_quick tw3039592710220408265 for Mine.q0 by Mine.q1
name_quick tw4575980220486274672 for Mine.q0 by Mine.q1
name_quick tw2660918139993853925 for Mine.q0 by Mine.q1
name_quick tw558745408833754511 for Mine.q0 by Mine.q1
name_quick tw7581352650102555174 for Mine.q0 by Mine.q1
name_quick tw10833955939284561965 for Mine.q0 by Mine.q1
name_quick tw14837249469386935497 for Mine.q0 by Mine.q1
name_quick tw9948023125614773506 for Mine.q0 by Mine.q1
name_quick tw13865176760440207958 for Mine.q0 by Mine.q1
name_quick tw4933834842325187142 for Mine.q0 by Mine.q1
name_quick tw563124612126607214 for Mine.q0 by Mine.q1
name_quick tw10938465397075749097 for Mine.q0 by Mine.q1
name_quick tw721709456127091705 for Mine.q0 by Mine.q1
name_quick tw3118938333895590913 for Mine.q0 by Mine.q1
name_quick tw16180483070735683940 for Mine.q0 by Mine.q1
name_quick tw11682084944484805031 for Mine.q0 by Mine.q1
name_quick tw17730428716208468724 for Mine.q0 by Mine.q1
name_quick tw1414301608579184545 for Mine.q0 by Mine.q1
name_quick tw14223099787259518943 for Mine.q0 by Mine.q1
name_quick tw18163708392712065173 for Mine.q0 by Mine.q1
name_quick tw17018628822417861297 for Mine.q0 by Mine.q1
name_quick tw3636048126100218174 for Mine.q0 by Mine.q1
name_quick tw764782834095389478 for Mine.q0 by Mine.q1
name_quick tw5706481520468235054 for Mine.q0 by Mine.q1
name_quick tw11985326045990495214 for Mine.q0 by Mine.q1
name_quick tw12177639751122801600 for Mine.q0 by Mine.q1
name_quick tw5925582254088234700 for Mine.q0 by Mine.q1
name_quick tw11796506867022685745 for Mine.q0 by Mine.q1
name_quick tw18126140380344562322 for Mine.q0 by Mine.q1
name_quick tw16979880578912567463 for Mine.q0 by Mine.q1
name_quick tw12981051755390344553 for Mine.q0 by Mine.q1
name_quick tw17057272898397164401 for Mine.q0 by Mine.q1
name_quick tw325292655437039998 for Mine.q0 by Mine.q1
name_quick tw7783732958741208154 for Mine.q0 by Mine.q1
name_quick tw1107438419126420414 for Mine.q0 by Mine.q1
name_quick tw12392613427281201732 for Mine.q0 by Mine.q1
name_quick tw392140993173905013 for Mine.q0 by Mine.q1
name_quick tw7504490480230193789 for Mine.q0 by Mine.q1
name_quick tw18056578402003937789 for Mine.q0 by Mine.q1
name_quick tw10352308551163946355 for Mine.q0 by Mine.q1
name_quick tw7286323032743288035 for Mine.q0 by Mine.q1
name_quick tw14437183149041757204 for Mine.q0 by Mine.q1
name_quick tw10029231156530900338 for Mine.q0 by Mine.q1
name_quick tw8119918657739134586 for Mine.q0 by Mine.q1
name_quick tw8488268690174267210 for Mine.q0 by Mine.q1
name_quick tw4879560196417449868 for Mine.q0 by Mine.q1
name_quick tw11636919720809706868 for Mine.q0 by Mine.q1
name_quick tw12371321757623732685 for Mine.q0 by Mine.q1
name_quick tw17183712847048597117 for Mine.q0 by Mine.q1
name_quick tw8047484207015712433 for Mine.q0 by Mine.q1
name_quick tw11892598404827812706 for Mine.q0 by Mine.q1
name_quick tw383695940523520267 for Mine.q0 by Mine.q1
name_quick tw8537084889766193716 for Mine.q0 by Mine.q1
name_quick tw4071324889030633612 for Mine.q0 by Mine.q1
name_quick tw12172078356533094185 for Mine.q0 by Mine.q1
name_quick tw3131671291697673992 for Mine.q0 by Mine.q1
name_quick tw662354867322794072 for Mine.q0 by Mine.q1
name_quick tw15376083050721069600 for Mine.q0 by Mine.q1
name_quick tw15112985482279097393 for Mine.q0 by Mine.q1
name_quick tw7670514497116975361 for Mine.q0 by Mine.q1
name_quick tw5294650391894551176 for Mine.q0 by Mine.q1
name_quick tw12635297910168745909 for Mine.q0 by Mine.q1
name_quick tw18340240734955500558 for Mine.q0 by Mine.q1
name_quick tw2958062672499776758 for Mine.q0 by Mine.q1
name_quick tw13809362725867891129 for Mine.q0 by Mine.q1
name_quick tw13871001218405608335 for Mine.q0 by Mine.q1
name_quick tw8610040677353227653 for Mine.q0 by Mine.q1
name_quick tw6872665032065906541 for Mine.q0 by Mine.q1
name_quick tw13002492023102617099 for Mine.q0 by Mine.q1
name_quick tw13251646731365433171 for Mine.q0 by Mine.q1
name_quick tw1763209079605825380 for Mine.q0 by Mine.q1
name_quick tw7082770336023389322 for Mine.q0 by Mine.q1
name_quick tw8459811325457737761 for Mine.q0 by Mine.q1
name_quick tw16437185098154296904 for Mine.q0 by Mine.q1
name_quick tw5381798951435451217 for Mine.q0 by Mine.q1
name_quick tw13559156169165276386 for Mine.q0 by Mine.q1
name_quick tw6967401301877209104 for Mine.q0 by Mine.q1
name_quick tw11707371222683016368 for Mine.q0 by Mine.q1
name_quick tw12850107946570832962 for Mine.q0 by Mine.q1
name_quick tw7892128664451923741 for Mine.q0 by Mine.q1
name_quick tw7469732015759309437 for Mine.q0 by Mine.q1
name_quick tw1638017585896720355 for Mine.q0 by Mine.q1
name_quick tw8400853705098224536 for Mine.q0 by Mine.q1
name_quick tw4681523508651956083 for Mine.q0 by Mine.q1
name_quick tw13252181687094117063 for Mine.q0 by Mine.q1
name_quick tw18220123701641295943 for Mine.q0 by Mine.q1
name_quick tw11036193050239951465 for Mine.q0 by Mine.q1
name_quick tw9951705424602377420 for Mine.q0 by Mine.q1
name_quick tw3343888101353276206 for Mine.q0 by Mine.q1
name_quick tw4552823106982906706 for Mine.q0 by Mine.q1
name_quick tw2039238271031011813 for Mine.q0 by Mine.q1
name_quick tw16326889199254633757 for Mine.q0 by Mine.q1
name_quick tw10706342367453228570 for Mine.q0 by Mine.q1
name_quick tw6448080314894763839 for Mine.q0 by Mine.q1
name_quick tw11277413387252134812 for Mine.q0 by Mine.q1
name_quick tw11495947367809530248 for Mine.q0 by Mine.q1
name_quick tw4679858250743294509 for Mine.q0 by Mine.q1
name_quick tw15542503528162795033 for Mine.q0 by Mine.q1
name_quick tw12329403913580668285 for Mine.q0 by Mine.q1
name_quick tw11707433790658880453 for Mine.q0 by Mine.q1
name_quick tw441327347791068078 for Mine.q0 by Mine.q1
name_quick tw9908251947323293946 for Mine.q0 by Mine.q1
name_quick tw5032809538720368765 for Mine.q0 by Mine.q1
name_quick tw18345786424863182364 for Mine.q0 by Mine.q1
name_quick tw505943868828395459 for Mine.q0 by Mine.q1
name_quick tw9407582987413476825 for Mine.q0 by Mine.q1
name_quick tw6792406925840432001 for Mine.q0 by Mine.q1
name_quick tw10670733350059645105 for Mine.q0 by Mine.q1
name_quick tw17520869792638436183 for Mine.q0 by Mine.q1
name_quick tw7276740287692124622 for Mine.q0 by Mine.q1
name_quick tw10314498396905981064 for Mine.q0 by Mine.q1
name_quick tw9626621113073979434 for Mine.q0 by Mine.q1
name_quick tw1092655722715705105 for Mine.q0 by Mine.q1
name_quick tw16644606511662114574 for Mine.q0 by Mine.q1
name_quick tw17814930658547583709 for Mine.q0 by Mine.q1
name_quick tw15766043655864335149 for Mine.q0 by Mine.q1
name_quick tw14420389602138693270 for Mine.q0 by Mine.q1
name_quick tw618205885557783147 for Mine.q0 by Mine.q1
name_quick tw14224011070414065920 for Mine.q0 by Mine.q1
name_quick tw6213141578215901147 for Mine.q0 by Mine.q1
name_quick tw14210447440969649564 for Mine.q0 by Mine.q1
name_quick tw5701610774189311196 for Mine.q0 by Mine.q1
name_quick tw11317593695737139937 for Mine.q0 by Mine.q1
name_quick tw6817277305950994716 for Mine.q0 by Mine.q1
name_quick tw16349216596472256690 for Mine.q0 by Mine.q1
name_quick tw17774800907425398282 for Mine.q0 by Mine.q1
name_quick tw17913803186225011329 for Mine.q0 by Mine.q1
name_quick tw6090905460779295987 for Mine.q0 by Mine.q1
name_quick tw11420187438672877268 for Mine.q0 by Mine.q1
name_quick tw12866136484021002089 for Mine.q0 by Mine.q1
name_quick tw5111356299099525756 for Mine.q0 by Mine.q1
name_quick tw9821368406582625841 for Mine.q0 by Mine.q1
name_quick tw14112274594779413971 for Mine.q0 by Mine.q1
name_quick tw11939915149646268982 for Mine.q0 by Mine.q1
name_quick tw8642067239939848140 for Mine.q0 by Mine.q1
name_quick tw17993156020533580102 for Mine.q0 by Mine.q1
name_quick tw5832503352825792928 for Mine.q0 by Mine.q1
name_quick tw3286237467618535963 for Mine.q0 by Mine.q1
name_quick tw5518745428033880147 for Mine.q0 by Mine.q1
name_quick tw2502411970723609615 for Mine.q0 by Mine.q1
name_quick tw4748654258956052638 for Mine.q0 by Mine.q1
name_quick tw7745614565497352828 for Mine.q0 by Mine.q1
name_quick tw8732485361984058174 for Mine.q0 by Mine.q1
name_quick tw6683783046931543321 for Mine.q0 by Mine.q1
name_quick tw8727135674562949291 for Mine.q0 by Mine.q1
name_quick tw4797165386629745026 for Mine.q0 by Mine.q1
name_quick tw16189536214700107852 for Mine.q0 by Mine.q1
name_quick tw12022618010286034681 for Mine.q0 by Mine.q1
name_quick tw2599325451414397859 for Mine.q0 by Mine.q1
name_quick tw17434858337260393937 for Mine.q0 by Mine.q1
name_quick tw10057510723706494237 for Mine.q0 by Mine.q1
name_quick tw14979626087600564940 for Mine.q0 by Mine.q1
name_quick tw470574548607681690 for Mine.q0 by Mine.q1
name_quick tw11452132507678324671 for Mine.q0 by Mine.q1
name_quick tw2408619945344806742 for Mine.q0 by Mine.q1
name_quick tw3560238982266916124 for Mine.q0 by Mine.q1
name_quick tw8424611434330503625 for Mine.q0 by Mine.q1
name_quick tw6125931036764729998 for Mine.q0 by Mine.q1
name_quick tw13900631225919944168 for Mine.q0 by Mine.q1
name_quick tw16223305294053301992 for Mine.q0 by Mine.q1
name_quick tw14023627001141898710 for Mine.q0 by Mine.q1
name_quick tw9862997608875712007 for Mine.q0 by Mine.q1
name_quick tw8376441433122354887 for Mine.q0 by Mine.q1
name_quick tw4980102563643897964 for Mine.q0 by Mine.q1
name_quick tw6537927635206691674 for Mine.q0 by Mine.q1
name_quick tw12635813782599140982 for Mine.q0 by Mine.q1
name_quick tw12750523984047038209 for Mine.q0 by Mine.q1
name_quick tw4224760802259116069 for Mine.q0 by Mine.q1
name_quick tw13581749221687468397 for Mine.q0 by Mine.q1
name_quick tw11729385059970357855 for Mine.q0 by Mine.q1
name_quick tw14544052848187043789 for Mine.q0 by Mine.q1
name_quick tw13036272033356848781 for Mine.q0 by Mine.q1
name_quick tw11328821685186248670 for Mine.q0 by Mine.q1
name_quick tw13981391230805400906 for Mine.q0 by Mine.q1
name_quick tw930746551332336609 for Mine.q0 by Mine.q1
name_quick tw10227693086864044499 for Mine.q0 by Mine.q1
name_quick tw16366562015402752707 for Mine.q0 by Mine.q1
name_quick tw6654550962395885724 for Mine.q0 by Mine.q1
name_quick tw17925548735911062312 for Mine.q0 by Mine.q1
name_quick tw3470799630455053000 for Mine.q0 by Mine.q1
name_quick tw16414604833108395602 for Mine.q0 by Mine.q1
name_quick tw15450981722951097364 for Mine.q0 by Mine.q1
name_quick tw17015423121036801654 for Mine.q0 by Mine.q1
name_quick tw2504098582860672743 for Mine.q0 by Mine.q1
name_quick tw7788680626742099145 for Mine.q0 by Mine.q1
name_quick tw5200128776193632040 for Mine.q0 by Mine.q1
name_quick tw12450158673883907302 for Mine.q0 by Mine.q1
name_quick tw9564595351457756722 for Mine.q0 by Mine.q1
name_quick tw6380782515089751550 for Mine.q0 by Mine.q1
name_quick tw7323676302269181137 for Mine.q0 by Mine.q1
name_quick tw9305782018832362445 for Mine.q0 by Mine.q1
name_quick tw387338674003428930 for Mine.q0 by Mine.q1
name_quick tw17000458434675057986 for Mine.q0 by Mine.q1
name_quick tw5135500740108067664 for Mine.q0 by Mine.q1
name_quick tw2719445374943340272 for Mine.q0 by Mine.q1
name_quick tw3880421473898291048 for Mine.q0 by Mine.q1
name_quick tw16792545251062261874 for Mine.q0 by Mine.q1
name_quick tw17024950926791866790 for Mine.q0 by Mine.q1
name_quick tw1772237422875290029 for Mine.q0 by Mine.q1
name_quick tw7650934615059315214 for Mine.q0 by Mine.q1
name_quick tw16049961110935095269 for Mine.q0 by Mine.q1
name_quick tw11767421526060770920 for Mine.q0 by Mine.q1
name_quick tw7802139600951554647 for Mine.q0 by Mine.q1
name_quick tw10500077913531017323 for Mine.q0 by Mine.q1
name_quick tw9529234661008812162 for Mine.q0 by Mine.q1
name_quick tw18211773271919218964 for Mine.q0 by Mine.q1
name_quick tw6834602518627153040 for Mine.q0 by Mine.q1
name_quick tw9467589175468403638 for Mine.q0 by Mine.q1
name_quick tw10508251915553800215 for Mine.q0 by Mine.q1
name_quick tw8987815912523675519 for Mine.q0 by Mine.q1
name_quick tw17341736924252097559 for Mine.q0 by Mine.q1
name_quick tw10470071008263537045 for Mine.q0 by Mine.q1
name_quick tw117213463901210413 for Mine.q0 by Mine.q1
name_quick tw17863021456227041891 for Mine.q0 by Mine.q1
name_quick tw15742981410569661332 for Mine.q0 by Mine.q1
name_quick tw4775785305629353868 for Mine.q0 by Mine.q1
name_quick tw10317580896714288900 for Mine.q0 by Mine.q1
name_quick tw14530364306720264245 for Mine.q0 by Mine.q1
name_quick tw5902227825499142635 for Mine.q0 by Mine.q1
name_quick tw16655555454665732581 for Mine.q0 by Mine.q1
name_quick tw8989982439271903415 for Mine.q0 by Mine.q1
name_quick tw3764465048917985505 for Mine.q0 by Mine.q1
name_quick tw17279654841073493023 for Mine.q0 by Mine.q1
name_quick tw9800571698397750058 for Mine.q0 by Mine.q1
name_quick tw6714822604882049554 for Mine.q0 by Mine.q1
name_quick tw10424941004445345732 for Mine.q0 by Mine.q1
name_quick tw16176465441171805009 for Mine.q0 by Mine.q1
name_quick tw13512673800721320934 for Mine.q0 by Mine.q1
namespace Mine
set_option maxRecDepth 100000 in
set_option maxHeartbeats 8000000 in
open_top hd for PySem.Challenge.rw_oj0027_01
end Mine

open PySem.Calls PySem.Spec
set_option maxRecDepth 100000
namespace Mine
section PartBase
theorem fill (w : World) (h : Heap) (X : (hd.heap_39 w.params).In h) : PySem.Challenge.rw_oj0027_01 = PySem.Challenge.rw_oj0027_01 ∧ (hd.heap_39 w.params).In h := by
  k_fill
  exact ⟨rfl, X⟩

/-- what stays of the ledger where a call touches a part of it alone -/
abbrev Kept (news touched : List (Addr × Obj)) (h : Heap) : Prop := ∀ p ∈ news, (∀ q ∈ touched, p.1 ≠ q.1) → h.get? p.1 = some p.2

theorem news_done {h₀ h h' : Heap} {L : Addr} {news news' mods mods' reads : List (Addr × Obj)} (N : News h₀ L h news) (hm : ∀ q ∈ mods, q ∈ news) (hr : ∀ q ∈ reads, q ∈ news)
    (N' : News h₀ L h' (mods' ++ reads)) (kept : Kept news (mods ++ reads) h') (hn : ∀ p ∈ news', p ∈ mods' ∨ (p ∈ news ∧ ∀ q ∈ mods, p.1 ≠ q.1)) : News h₀ L h' news' := by
  intro p hp
  rcases hn p hp with h1 | ⟨h1, h2⟩
  · exact N' p (List.mem_append_left _ h1)
  · by_cases hq : ∃ q ∈ reads, p.1 = q.1
    · obtain ⟨q, hq, e⟩ := hq
      have z := N' q (List.mem_append_right _ hq)
      have z1 := (N q (hr q hq)).1
      have z2 := (N p h1).1
      rw [e, z1] at z2
      have e2 : p.2 = q.2 := (Option.some.inj z2).symm
      rw [e, e2]; exact z
    · refine ⟨kept p h1 fun q hq' => ?_, (N p h1).2⟩
      rcases List.mem_append.mp hq' with h3 | h3
      · exact h2 q h3
      · exact fun e => hq ⟨q, h3, e⟩

theorem news_sub {h₀ h : Heap} {L : Addr} {news news' : List (Addr × Obj)} (N : News h₀ L h news) (hs : ∀ p ∈ news', p ∈ news) : News h₀ L h news' := fun p hp => N p (hs p hp)

/-- addresses below one, told by index -/
noncomputable def nth? : List Nat → Nat → Option Nat
  | [], _ => none
  | a :: _, 0 => some a
  | _ :: r, n + 1 => nth? r n
def At (l : List Nat) (a i : Nat) : Prop := nth? l i = some a
theorem At.mk {l : List Nat} {a : Nat} (i : Nat) (h : nth? l i = some a) : At l a i := h
noncomputable def Under (b : Nat) : List Nat → Prop
  | [] => True
  | a :: r => a < b ∧ Under b r
theorem under_of {d : Addr} : ∀ {l : List (Addr × Obj)}, (∀ p ∈ l, p.1 < d) → Under d (l.map (·.1))
  | [], _ => trivial
  | p :: _, h => ⟨h p (.head _), under_of fun q hq => h q (.tail _ hq)⟩
theorem Under.lt {b a : Nat} : ∀ {l : List Nat} {i : Nat}, Under b l → At l a i → a < b
  | [], _, _, e => nomatch e
  | _ :: _, 0, h, e => by cases e; exact h.1
  | _ :: _, _ + 1, h, e => Under.lt h.2 e
theorem Under.ne {b a i : Nat} {l : List Nat} (h : Under b l) (e : At l a i) : a ≠ b := Nat.ne_of_lt (h.lt e)
theorem Under.ne' {b a i : Nat} {l : List Nat} (h : Under b l) (e : At l a i) : b ≠ a := Nat.ne_of_gt (h.lt e)
/-- a chain of addresses, told by index -/
noncomputable def AscB : Nat → List Nat → Prop
  | _, [] => True
  | a, b :: r => a < b ∧ AscB b r
def Asc : List Nat → Prop
  | [] => True
  | a :: r => AscB a r
theorem AscB.lt {x : Nat} : ∀ {l : List Nat} {a j : Nat}, AscB a l → At l x j → a < x
  | [], _, _, _, e => nomatch e
  | _ :: _, _, 0, h, e => by cases e; exact h.1
  | _ :: _, _, _ + 1, h, e => Nat.lt_trans h.1 (AscB.lt h.2 e)
theorem Asc.lt {x y : Nat} : ∀ {l : List Nat} {i j : Nat}, Asc l → At l x i → At l y j → Nat.blt i j = true → x < y
  | [], _, _, _, e, _, _ => nomatch e
  | _ :: _, _, 0, _, _, _, g => absurd (Nat.le_of_ble_eq_true g) (by omega)
  | _ :: _, 0, _ + 1, h, e, f, _ => by cases e; exact AscB.lt h f
  | _ :: [], _ + 1, _ + 1, _, e, _, _ => nomatch e
  | _ :: _ :: _, _ + 1, _ + 1, h, e, f, g => Asc.lt (l := _ :: _) h.2 e f (Nat.ble_eq_true_of_le (by have := Nat.le_of_ble_eq_true g; omega))
theorem Asc.ne {l : List Nat} {x y i j : Nat} (h : Asc l) (e : At l x i) (f : At l y j) (g : Nat.blt i j = true) : x ≠ y := Nat.ne_of_lt (h.lt e f g)
theorem Asc.ne' {l : List Nat} {x y i j : Nat} (h : Asc l) (e : At l x i) (f : At l y j) (g : Nat.blt i j = true) : y ≠ x := Nat.ne_of_gt (h.lt e f g)
theorem Asc.low {l : List Nat} {x y c i j : Nat} (hy : y < c) (h : Asc l) (e : At l c i) (f : At l x j) (g : Nat.blt i j = true) : y ≠ x := Nat.ne_of_lt (Nat.lt_trans hy (h.lt e f g))
theorem Asc.low' {l : List Nat} {x y c i j : Nat} (hy : y < c) (h : Asc l) (e : At l c i) (f : At l x j) (g : Nat.blt i j = true) : x ≠ y := Nat.ne_of_gt (Nat.lt_trans hy (h.lt e f g))

theorem low0 {a b n : Nat} (h : a + b < n) : a < n := Nat.lt_of_le_of_lt (Nat.le_add_right _ _) h
theorem low1 {a b n c : Nat} (h : a + b < n) (e : Nat.ble c b = true) : a + c < n := Nat.lt_of_le_of_lt (Nat.add_le_add_left (Nat.le_of_ble_eq_true e) a) h
theorem low2 {a b n c d : Nat} (h : a + b < n) (e : Nat.ble (c + d) b = true) : a + c + d < n := by rw [Nat.add_assoc]; exact low1 h e
theorem low3 {a b n c d f : Nat} (h : a + b < n) (e : Nat.ble (c + d + f) b = true) : a + c + d + f < n := by rw [Nat.add_assoc, Nat.add_assoc, ← Nat.add_assoc c]; exact low1 h e
theorem nle {k a b : Nat} (h : k ≤ a) (e : Nat.ble a b = true) : k ≤ b := Nat.le_trans h (Nat.le_of_ble_eq_true e)
theorem nlt {k a b : Nat} (h : k ≤ a) (e : Nat.blt a b = true) : k < b := Nat.lt_of_le_of_lt h (Nat.le_of_ble_eq_true e)
theorem ile {k a b : Int} (h : k ≤ a) (e : decide (a ≤ b) = true) : k ≤ b := Int.le_trans h (of_decide_eq_true e)
theorem ilt {k a b : Int} (h : k < a) (e : decide (a ≤ b) = true) : k < b := Int.lt_of_lt_of_le h (of_decide_eq_true e)
theorem ilt' {k a b : Int} (h : k ≤ a) (e : decide (a < b) = true) : k < b := Int.lt_of_le_of_lt h (of_decide_eq_true e)
theorem ilow {k a b : Int} (h : b ≤ k) (e : decide (a ≤ b) = true) : a ≤ k := Int.le_trans (of_decide_eq_true e) h
theorem iup {k a b c : Int} (h : k ≤ a) (e : decide (a + c ≤ b) = true) : k + c ≤ b := Int.le_trans (Int.add_le_add_right h c) (of_decide_eq_true e)
theorem iup0 {k : Int} {n : Nat} (h : 0 ≤ k) : 0 ≤ k + n := Int.add_nonneg h (Int.natCast_nonneg n)
theorem islack {k a b : Int} (h : a ≤ k) (e : decide (0 ≤ b) = true) : a ≤ k + b := Int.le_trans h (Int.le_add_of_nonneg_right (of_decide_eq_true e))
theorem islack' {k b : Int} (e : decide (0 ≤ b) = true) : k ≤ k + b := Int.le_add_of_nonneg_right (of_decide_eq_true e)
theorem Under.low {b c y i : Nat} {l : List Nat} (hy : b < y) (h : Under b l) (e : At l c i) : y ≠ c := Nat.ne_of_gt (Nat.lt_trans (h.lt e) hy)
theorem Asc.out {l : List Nat} {lo x hi c i j k : Nat} (hc : c < lo ∨ hi < c) (h : Asc l) (e : At l lo i) (f : At l x j) (g : At l hi k) (p : Nat.ble i j = true) (q : Nat.ble j k = true) : c ≠ x := by
  have h1 : lo ≤ x := by
    rcases Nat.lt_or_eq_of_le (Nat.le_of_ble_eq_true p) with z | z
    · exact Nat.le_of_lt (h.lt e f (Nat.ble_eq_true_of_le z))
    · subst z; exact Nat.le_of_eq (Option.some.inj (e.symm.trans f))
  have h2 : x ≤ hi := by
    rcases Nat.lt_or_eq_of_le (Nat.le_of_ble_eq_true q) with z | z
    · exact Nat.le_of_lt (h.lt f g (Nat.ble_eq_true_of_le z))
    · subst z; exact Nat.le_of_eq (Option.some.inj (f.symm.trans g))
  rcases hc with hc | hc
  · exact Nat.ne_of_lt (Nat.lt_of_lt_of_le hc h1)
  · exact Nat.ne_of_gt (Nat.lt_of_le_of_lt h2 hc)
theorem Asc.out' {l : List Nat} {lo x hi c i j k : Nat} (hc : c < lo ∨ hi < c) (h : Asc l) (e : At l lo i) (f : At l x j) (g : At l hi k) (p : Nat.ble i j = true) (q : Nat.ble j k = true) : x ≠ c := (h.out hc e f g p q).symm

theorem toks_off {prog : Program} {w : World} {A : Around} {c : Stmt} {cs : List Stmt} {env : Env} {Q : Flow → Shared → Prop} {E : Value → Shared → Prop} {h : Heap} {g d o} {x y : Nat} (H : ∀ t, wpAny (model prog w) A (execs (c :: cs) env) Q E ⟨h, g, d, t, o⟩) :
    wpAny (model prog w) A (execs (c :: cs) env) Q E ⟨h, g, d, x + y, o⟩ := H _

theorem under_all {d : Nat} {l : List Nat} {news : List (Addr × Obj)} (h : Under d l) (e : news.map (·.1) = l) : ∀ p ∈ news, p.1 ≠ d := by
  subst e
  induction news with
  | nil => exact fun _ h => nomatch h
  | cons p r ih => exact List.forall_mem_cons.mpr ⟨Nat.ne_of_lt h.1, ih h.2⟩
theorem all_cons {a d : Nat} {o : Obj} {l : List (Addr × Obj)} (h1 : a ≠ d) (h2 : ∀ p ∈ l, p.1 ≠ d) : ∀ p ∈ (a, o) :: l, p.1 ≠ d := List.forall_mem_cons.mpr ⟨h1, h2⟩
theorem sub_cons {p : Addr × Obj} {l news : List (Addr × Obj)} (h1 : p ∈ news) (h2 : ∀ q ∈ l, q ∈ news) : ∀ q ∈ p :: l, q ∈ news := List.forall_mem_cons.mpr ⟨h1, h2⟩
noncomputable def pth? {α : Type} : List α → Nat → Option α
  | [], _ => none
  | a :: _, 0 => some a
  | _ :: r, n + 1 => pth? r n
theorem mem_at {α : Type} {p : α} : ∀ {l : List α} (i : Nat), pth? l i = some p → p ∈ l
  | [], _, e => nomatch e
  | _ :: _, 0, e => by cases e; exact .head _
  | _ :: _, _ + 1, e => .tail _ (mem_at _ e)

/-- two addresses that differ (a word that omega does not open) -/
def Apart (a b : Addr) : Prop := a ≠ b
theorem Apart.ne {a b : Addr} (h : Apart a b) : @Ne Nat a b := h
theorem Apart.ne' {a b : Addr} (h : Apart a b) : @Ne Nat b a := Ne.symm h
theorem apart_all {h₀ g h h' : Heap} {L L' D : Addr} {o : Obj} {news touched led : List (Addr × Obj)} (_N : News h₀ L h news) (hg : ∀ q ∈ news, (∀ r ∈ touched, q.1 ≠ r.1) → g.get? q.1 = some q.2) (N' : News g L' h' led) (hD : (D, o) ∈ led)
    (ht : ∀ r ∈ touched, r.1 ≠ D) : ∀ p ∈ news, Apart p.1 D := by
  intro p hp e
  by_cases hq : ∃ q ∈ touched, p.1 = q.1
  · obtain ⟨q, hq, e2⟩ := hq
    exact ht q hq (e2.symm.trans e)
  · have h1 := hg p hp fun r hr e2 => hq ⟨r, hr, e2⟩
    have h2 := (N' _ hD).2.2
    rw [e] at h1
    rw [h1] at h2
    cases h2

theorem news_cons_same {h₀ h h' : Heap} {L D : Addr} {o : Obj} {news touched led : List (Addr × Obj)} (N : News h₀ L h news) (hs : ∀ q ∈ touched, q ∈ news) (N' : News h₀ L h' led) (hD : (D, o) ∈ led) (hsub : ∀ q ∈ touched, q ∈ led) (kept : Kept news touched h') :
    News h₀ L h' ((D, o) :: news) := by
  have hn : News h₀ L h' news := news_done (mods := []) (mods' := []) (reads := touched) N (fun _ h => nomatch h) hs (news_sub N' hsub) kept fun p hp => .inr ⟨hp, fun _ h => nomatch h⟩
  intro p hp
  rcases List.mem_cons.mp hp with rfl | hp
  · exact N' _ hD
  · exact hn p hp

theorem apart_use {l : List (Addr × Obj)} {a b : Addr} {o : Obj} (h : ∀ r ∈ l, Apart r.1 b) (hm : (a, o) ∈ l) : @Ne Nat a b := h _ hm
theorem apart_use' {l : List (Addr × Obj)} {a b : Addr} {o : Obj} (h : ∀ r ∈ l, Apart r.1 b) (hm : (a, o) ∈ l) : @Ne Nat b a := Ne.symm (h _ hm)

/-- two objects of the ledger are turned -/
def Upd2 (a : Addr) (oa : Obj) (b : Addr) (ob : Obj) (news : List (Addr × Obj)) (G : Obj → Obj → List (Addr × Obj)) : Prop := ∃ g1, UpdF a oa news g1 ∧ ∀ o, UpdF b ob (g1 o) (G o)
theorem updF_done {d : Addr} {o : Obj} {news : List (Addr × Obj)} {g : Obj → List (Addr × Obj)} (U : UpdF d o news g) (o' : Obj) :
    ∀ p ∈ g o', p ∈ [(d, o')] ∨ (p ∈ news ∧ ∀ q ∈ [(d, o)], p.1 ≠ q.1) := by
  obtain ⟨pre, post, hnews, hg, ha, hb⟩ := U.split
  intro p hp
  rw [hg] at hp
  rcases List.mem_append.mp hp with hp | hp
  · exact .inr ⟨by rw [hnews]; exact List.mem_append_left _ hp, fun q hq => by rw [List.mem_singleton.mp hq]; exact ha p hp⟩
  · rcases List.mem_cons.mp hp with rfl | hp
    · exact .inl (by simp)
    · exact .inr ⟨by rw [hnews]; exact List.mem_append_right _ (.tail _ hp), fun q hq => by rw [List.mem_singleton.mp hq]; exact hb p hp⟩
theorem upd2_done {a b : Addr} {oa ob : Obj} {news : List (Addr × Obj)} {G : Obj → Obj → List (Addr × Obj)} (U : Upd2 a oa b ob news G) (oa' ob' : Obj) :
    ∀ p ∈ G oa' ob', p ∈ [(a, oa'), (b, ob')] ∨ (p ∈ news ∧ ∀ q ∈ [(a, oa), (b, ob)], p.1 ≠ q.1) := by
  obtain ⟨g1, U1, U2⟩ := U
  intro p hp
  rcases updF_done (U2 oa') ob' p hp with h1 | ⟨h1, h2⟩
  · exact .inl (List.mem_cons_of_mem _ h1)
  · rcases updF_done U1 oa' p h1 with h3 | ⟨h3, h4⟩
    · exact .inl (by rw [List.mem_singleton.mp h3]; exact .head _)
    · refine .inr ⟨h3, fun q hq => ?_⟩
      rcases List.mem_cons.mp hq with rfl | hq
      · exact h4 _ (.head _)
      · rw [List.mem_singleton.mp hq]
        exact h2 (b, ob) (.head _)

/-- three objects of the ledger are turned -/
def Upd3 (a : Addr) (oa : Obj) (b : Addr) (ob : Obj) (c : Addr) (oc : Obj) (news : List (Addr × Obj)) (G : Obj → Obj → Obj → List (Addr × Obj)) : Prop := ∃ g1, UpdF a oa news g1 ∧ ∀ o, Upd2 b ob c oc (g1 o) (G o)
theorem upd3_done {a b c : Addr} {oa ob oc : Obj} {news : List (Addr × Obj)} {G : Obj → Obj → Obj → List (Addr × Obj)} (U : Upd3 a oa b ob c oc news G) (oa' ob' oc' : Obj) :
    ∀ p ∈ G oa' ob' oc', p ∈ [(a, oa'), (b, ob'), (c, oc')] ∨ (p ∈ news ∧ ∀ q ∈ [(a, oa), (b, ob), (c, oc)], p.1 ≠ q.1) := by
  obtain ⟨g1, U1, U2⟩ := U
  intro p hp
  rcases upd2_done (U2 oa') ob' oc' p hp with h1 | ⟨h1, h2⟩
  · exact .inl (List.mem_cons_of_mem _ h1)
  · rcases updF_done U1 oa' p h1 with h3 | ⟨h3, h4⟩
    · exact .inl (by rw [List.mem_singleton.mp h3]; exact .head _)
    · refine .inr ⟨h3, fun q hq => ?_⟩
      rcases List.mem_cons.mp hq with rfl | hq
      · exact h4 _ (.head _)
      · exact h2 q hq

section
variable {prog : Program} {w : World} {A₀ A : Around} {s : Shared} {base h₀ : Heap} {outer : List Env} {L : Addr} {m mg mb : Str → Option Value} {env : Env} {news touched : List (Addr × Obj)} {K : Frag} {p : Program} {loose : List Str} {mean : ExcName → Option Value}

/-- a call of a def of the top that touches a part of the ledger: the body is walked over that part alone -/
theorem code_defR {R : Result → Shared → Prop} {name qual : Str} {params : Arguments} {body : List Stmt} {scope : Scope} {dV kV doc pm cdv ct oc : Value} {an od : Option Addr} {osl : Array (Option Value)} {f : Addr} {args : Args} {binds : List (Str × Value)}
    (B : Below A₀ base outer h₀) (F : Fr h₀ L s.heap m) (X₀ : K.In h₀) (N : News h₀ L s.heap news) (T : Top p loose mean mg mb h₀) (hsub : ∀ q ∈ touched, q ∈ news) (hA : A.frames = some (env :: outer)) (hf : env.frame = some L) (hke : env.scope.kind = .function)
    (ho : K.lookup f = some ⟨oc, od, .func (fnOf name qual params body scope dV kV doc pm an cdv ct), osl⟩) (hcd : codeIn K cdv qual = true) (hroom : A.depth < recursionLimit)
    (hbind : BindsTo s (fnOf name qual params body scope dV kV doc pm an cdv ct) args binds) (hloc : ∀ y ∈ binds, scope.names.lookup y.1 = some .local)
    (h : ∀ g L' h₁, Fr h₀ L g m → Fr g L' h₁ (fun y => binds.reverse.lookup y) → News g L' h₁ touched → Below A base (env :: outer) g → K.In g → Top p loose mean mg mb g →
      wpAny (model prog w) (A.deeper (envOf qual scope L' f cdv)) (execs body (envOf qual scope L' f cdv))
        (fun fl s' => LeaveK h₀ L m g (fun r s' => Kept news touched s'.heap → R r s') (match fl with | .ret v => v | _ => .none) s')
        (fun _ _ => False)
        { s with heap := h₁, toks := s.toks + binds.length })
    (hco : scope.isCoroutine = false) (hgen : scope.isGenerator = false) (hk : scope.kind = .function)
    (hcell : ∀ x ∈ scope.names, x.2 ≠ .cell) : codeAny (model prog w) A (.call (.ref f) args) R s := by
  have NT : News h₀ L s.heap touched := news_sub N hsub
  obtain ⟨FG, BG, st, lv⟩ := groundX (R := R) B F NT hA hf hke
  refine codeAny_call_def (fd := fnX name qual params body scope [] dV kV doc pm an cdv ct) (body := body) (binds := binds) hroom ((X₀.keeps F.keep) _ _ ho) rfl (T.nolimit.keeps F.keep) (codeRec_of (X₀.keeps F.keep) hcd) rfl hbind hcell hloc (fun h₁ hns hk₁ => ?_) hco hgen hk
  refine wpAny_mono (h _ s.heap.objs.size h₁ FG ⟨hns, fun b o e => hk₁ b o (of_hideAll _ e), Nat.le_of_eq (hideAll_size _ _)⟩
    (fun p hp => ⟨hk₁ _ _ (NT p hp).1, Nat.ne_of_lt (Heap.lt_size (NT p hp).1), hideAll_none _ (List.mem_map_of_mem hp)⟩) BG (X₀.keeps st) (T.keeps st)) (fun fl s' hl => lv _ _ ?_) fun _ _ y => y.elim
  obtain ⟨L', m', news', F', N', k⟩ := hl
  refine ⟨L', m', news', F', N', fun a b => k a b fun q hq hne => F'.keep _ _ (hideAll_get _ (N q hq).1 fun hm => ?_)⟩
  obtain ⟨r, hr, e⟩ := List.mem_map.mp hm
  exact hne r hr e.symm

/-- the same, its ground told -/
theorem code_defR2 {R : Result → Shared → Prop} {name qual : Str} {params : Arguments} {body : List Stmt} {scope : Scope} {dV kV doc pm cdv ct oc : Value} {an od : Option Addr} {osl : Array (Option Value)} {f : Addr} {args : Args} {binds : List (Str × Value)}
    (B : Below A₀ base outer h₀) (F : Fr h₀ L s.heap m) (X₀ : K.In h₀) (N : News h₀ L s.heap news) (T : Top p loose mean mg mb h₀) (hsub : ∀ q ∈ touched, q ∈ news) (hA : A.frames = some (env :: outer)) (hf : env.frame = some L) (hke : env.scope.kind = .function)
    (ho : K.lookup f = some ⟨oc, od, .func (fnOf name qual params body scope dV kV doc pm an cdv ct), osl⟩) (hcd : codeIn K cdv qual = true) (hroom : A.depth < recursionLimit)
    (hbind : BindsTo s (fnOf name qual params body scope dV kV doc pm an cdv ct) args binds) (hloc : ∀ y ∈ binds, scope.names.lookup y.1 = some .local)
    (h : ∀ g L' h₁, Fr h₀ L g m → Fr g L' h₁ (fun y => binds.reverse.lookup y) → News g L' h₁ touched → Below A base (env :: outer) g → K.In g → Top p loose mean mg mb g → (∀ q ∈ news, (∀ r ∈ touched, q.1 ≠ r.1) → g.get? q.1 = some q.2) →
      wpAny (model prog w) (A.deeper (envOf qual scope L' f cdv)) (execs body (envOf qual scope L' f cdv))
        (fun fl s' => LeaveK h₀ L m g (fun r s' => Kept news touched s'.heap → R r s') (match fl with | .ret v => v | _ => .none) s')
        (fun _ _ => False)
        { s with heap := h₁, toks := s.toks + binds.length })
    (hco : scope.isCoroutine = false) (hgen : scope.isGenerator = false) (hk : scope.kind = .function)
    (hcell : ∀ x ∈ scope.names, x.2 ≠ .cell) : codeAny (model prog w) A (.call (.ref f) args) R s := by
  have NT : News h₀ L s.heap touched := news_sub N hsub
  obtain ⟨FG, BG, st, lv⟩ := groundX (R := R) B F NT hA hf hke
  refine codeAny_call_def (fd := fnX name qual params body scope [] dV kV doc pm an cdv ct) (body := body) (binds := binds) hroom ((X₀.keeps F.keep) _ _ ho) rfl (T.nolimit.keeps F.keep) (codeRec_of (X₀.keeps F.keep) hcd) rfl hbind hcell hloc (fun h₁ hns hk₁ => ?_) hco hgen hk
  refine wpAny_mono (h _ s.heap.objs.size h₁ FG ⟨hns, fun b o e => hk₁ b o (of_hideAll _ e), Nat.le_of_eq (hideAll_size _ _)⟩
    (fun p hp => ⟨hk₁ _ _ (NT p hp).1, Nat.ne_of_lt (Heap.lt_size (NT p hp).1), hideAll_none _ (List.mem_map_of_mem hp)⟩) BG (X₀.keeps st) (T.keeps st) (fun q hq hne => hideAll_get _ (N q hq).1 fun hm => by
      obtain ⟨r, hr, e⟩ := List.mem_map.mp hm
      exact hne r hr e.symm)) (fun fl s' hl => lv _ _ ?_) fun _ _ y => y.elim
  obtain ⟨L', m', news', F', N', k⟩ := hl
  refine ⟨L', m', news', F', N', fun a b => k a b fun q hq hne => F'.keep _ _ (hideAll_get _ (N q hq).1 fun hm => ?_)⟩
  obtain ⟨r, hr, e⟩ := List.mem_map.mp hm
  exact hne r hr e.symm

/-- code_defC, its ground told -/
theorem code_defG' {R : Result → Shared → Prop} {name qual : Str} {params : Arguments} {body : List Stmt} {scope : Scope} {dV kV doc pm cdv ct oc : Value} {an od : Option Addr} {osl : Array (Option Value)} {f : Addr} {args : Args} {binds : List (Str × Value)}
    (B : Below A₀ base outer h₀) (F : Fr h₀ L s.heap m) (X₀ : K.In h₀) (N : News h₀ L s.heap touched) (T : Top p loose mean mg mb h₀) (hA : A.frames = some (env :: outer)) (hf : env.frame = some L) (hke : env.scope.kind = .function)
    (ho : K.lookup f = some ⟨oc, od, .func (fnOf name qual params body scope dV kV doc pm an cdv ct), osl⟩) (hcd : codeIn K cdv qual = true) (hroom : A.depth < recursionLimit)
    (hbind : BindsTo s (fnOf name qual params body scope dV kV doc pm an cdv ct) args binds) (hkind : (binds.all fun y => scope.names.lookup y.1 == some .local || scope.names.lookup y.1 == some .cell) = true)
    (hnd : ((cellsFrom 0 scope.names []).map (·.1)).Nodup)
    (h : ∀ g L' h₁ tk cells, g = hideAll s.heap (touched.map (·.1)) → Fr h₀ L g m → Fr g L' h₁ (bindL (envOfC qual scope L' f cdv).kindOf binds fun _ => none) → News g L' h₁ (cells ++ touched) →
      CellsAre (bindC (envOfC qual scope L' f cdv).kindOf binds fun _ => none) (cellsFrom (L' + 1) scope.names []) cells → Below A base (env :: outer) g → K.In g → Top p loose mean mg mb g → (∀ p ∈ touched, p.1 < L') →
      wpAny (model prog w) (A.deeper (envOfC qual scope L' f cdv)) (execs body (envOfC qual scope L' f cdv))
        (fun fl s' => LeaveK h₀ L m g R (match fl with | .ret v => v | _ => .none) s')
        (fun _ _ => False)
        { s with heap := h₁, toks := tk })
    (hco : scope.isCoroutine = false) (hgen : scope.isGenerator = false) (hk : scope.kind = .function) : codeAny (model prog w) A (.call (.ref f) args) R s := by
  obtain ⟨FG, BG, st, lv⟩ := groundX (R := R) B F N hA hf hke
  refine codeAny_call_function hroom ((X₀.keeps F.keep) _ _ ho) rfl hco hgen rfl (codeRec_of (X₀.keeps F.keep) hcd) (hbind _ _ _ _ ?_)
  refine wpAny_newFunctionEnv_cells hk (kindsX hkind _) fun env' he s' x => ?_
  subst he
  refine ⟨(T.nolimit.keeps F.keep).keeps x.toInCall.keep, codeAny_func ?_⟩
  obtain ⟨h₁, tk, rfl, _⟩ := x.done
  have hk₁ := x.toInCall.keep
  obtain ⟨cells, NC, Y⟩ := Cl.news (h₀ := s.heap) (Nat.le_refl _) fun n c hm => ⟨x.cell n c (lookup_of_mem_nodup (cellsFrom_names scope.names 0 (s.heap.objs.size + 1) [] [] rfl ▸ hnd) hm), x.above n c hm⟩
  refine wpAny_mono (h _ s.heap.objs.size h₁ tk cells rfl FG ⟨x.toInCall.ns, fun b o e => hk₁ b o (of_hideAll _ e), Nat.le_of_eq (hideAll_size _ _)⟩ (fun p hp => ?_) Y BG (X₀.keeps st) (T.keeps st) (fun p hp => Heap.lt_size (N p hp).1)) (fun fl s' hl => lv _ _ hl) fun _ _ y => y.elim
  rcases List.mem_append.mp hp with hp | hp
  · refine ⟨(NC p hp).1, (NC p hp).2.1, ?_⟩
    cases q : (hideAll s.heap (touched.map (·.1))).get? p.1 with
    | none => rfl
    | some o => have := of_hideAll _ q; rw [(NC p hp).2.2] at this; cases this
  · exact ⟨hk₁ _ _ (N p hp).1, Nat.ne_of_lt (Heap.lt_size (N p hp).1), hideAll_none _ (List.mem_map_of_mem hp)⟩

/-- the same for a def whose parameters are closed over -/
theorem code_defCR {R : Result → Shared → Prop} {name qual : Str} {params : Arguments} {body : List Stmt} {scope : Scope} {dV kV doc pm cdv ct oc : Value} {an od : Option Addr} {osl : Array (Option Value)} {f : Addr} {args : Args} {binds : List (Str × Value)}
    (B : Below A₀ base outer h₀) (F : Fr h₀ L s.heap m) (X₀ : K.In h₀) (N : News h₀ L s.heap news) (T : Top p loose mean mg mb h₀) (hsub : ∀ q ∈ touched, q ∈ news) (hA : A.frames = some (env :: outer)) (hf : env.frame = some L) (hke : env.scope.kind = .function)
    (ho : K.lookup f = some ⟨oc, od, .func (fnOf name qual params body scope dV kV doc pm an cdv ct), osl⟩) (hcd : codeIn K cdv qual = true) (hroom : A.depth < recursionLimit)
    (hbind : BindsTo s (fnOf name qual params body scope dV kV doc pm an cdv ct) args binds) (hkind : (binds.all fun y => scope.names.lookup y.1 == some .local || scope.names.lookup y.1 == some .cell) = true)
    (hnd : ((cellsFrom 0 scope.names []).map (·.1)).Nodup)
    (h : ∀ g L' h₁ tk cells, Fr h₀ L g m → Fr g L' h₁ (bindL (envOfC qual scope L' f cdv).kindOf binds fun _ => none) → News g L' h₁ (cells ++ touched) →
      CellsAre (bindC (envOfC qual scope L' f cdv).kindOf binds fun _ => none) (cellsFrom (L' + 1) scope.names []) cells → Below A base (env :: outer) g → K.In g → Top p loose mean mg mb g → (∀ p ∈ touched, p.1 < L') →
      wpAny (model prog w) (A.deeper (envOfC qual scope L' f cdv)) (execs body (envOfC qual scope L' f cdv))
        (fun fl s' => LeaveK h₀ L m g (fun r s' => Kept news touched s'.heap → R r s') (match fl with | .ret v => v | _ => .none) s')
        (fun _ _ => False)
        { s with heap := h₁, toks := tk })
    (hco : scope.isCoroutine = false) (hgen : scope.isGenerator = false) (hk : scope.kind = .function) : codeAny (model prog w) A (.call (.ref f) args) R s := by
  have NT : News h₀ L s.heap touched := news_sub N hsub
  have gsub : ∀ q ∈ news, (∀ r ∈ touched, q.1 ≠ r.1) → (hideAll s.heap (touched.map (·.1))).get? q.1 = some q.2 := fun q hq hne => hideAll_get _ (N q hq).1 fun hm => by
    obtain ⟨r, hr, e⟩ := List.mem_map.mp hm
    exact hne r hr e.symm
  refine code_defG' (R := R) B F X₀ NT T hA hf hke ho hcd hroom hbind hkind hnd (fun g L' h₁ tk cells hg FG F' N' Y B' X' T' l => ?_) hco hgen hk
  subst hg
  refine wpAny_mono (h _ L' h₁ tk cells FG F' N' Y B' X' T' l) (fun fl s' hl => ?_) fun _ _ y => y.elim
  obtain ⟨L'', m', news', F'', N'', k⟩ := hl
  exact ⟨L'', m', news', F'', N'', fun a b => k a b fun q hq hne => F''.keep _ _ (gsub q hq hne)⟩
end
end PartBase

local macro_rules | `(tactic| k_room) => `(tactic| ktr_room)
local macro_rules | `(tactic| walk_at "MINE low") => `(tactic| first | assumption | exact low1 (by assumption) (by rfl) | exact low2 (by assumption) (by rfl) | exact low0 (by assumption) | exact low3 (by assumption) (by rfl))
local macro_rules | `(tactic| walk_at "MINE om") => `(tactic| first | assumption | exact of_decide_eq_true rfl | exact nle (by assumption) (by rfl) | exact nlt (by assumption) (by rfl) | exact ile (by assumption) (by rfl) | omega)
local macro_rules | `(tactic| units_room) => `(tactic| ((try simp only [units_under_make, units_in1, units_deeper, Around.mark_units]); (try dsimp only [ktrTop]); first | walk_at "MINE low" | omega))
local macro_rules | `(tactic| ktr_room) => `(tactic| ((try simp only [depth_under_make, depth_under_kw, depth_in1, depth_deeper, depth_caller]); (try dsimp only [ktrTop]); walk_at "MINE low"))
local macro_rules | `(tactic| k_units) => `(tactic| units_room)
local macro_rules | `(tactic| k_lt $h) => `(tactic| (replace $h := under_of $h; (try dsimp only [List.map, List.cons_append, List.nil_append] at $h:ident)))
local macro_rules | `(tactic| walk_at "MINE at") => `(tactic| first | exact At.mk 0 rfl | exact At.mk 1 rfl | exact At.mk 2 rfl | exact At.mk 3 rfl | exact At.mk 4 rfl | exact At.mk 5 rfl | exact At.mk 6 rfl | exact At.mk 7 rfl | exact At.mk 8 rfl | exact At.mk 9 rfl | exact At.mk 10 rfl | exact At.mk 11 rfl | exact At.mk 12 rfl | exact At.mk 13 rfl | exact At.mk 14 rfl | exact At.mk 15 rfl | exact At.mk 16 rfl | exact At.mk 17 rfl | exact At.mk 18 rfl | exact At.mk 19 rfl | exact At.mk 20 rfl | exact At.mk 21 rfl | exact At.mk 22 rfl | exact At.mk 23 rfl | exact At.mk 24 rfl | exact At.mk 25 rfl)
local macro_rules | `(tactic| walk_at "MINE lt") => `(tactic| first
  | assumption
  | exact Under.lt (by assumption) (by walk_at "MINE at")
  | exact Asc.lt (by assumption) (by walk_at "MINE at") (by walk_at "MINE at") (by rfl)
  | omega
  | (simp only [Asc, AscB, Under] at *; omega))
local macro_rules | `(tactic| walk_at "MINE ord") => `(tactic| first | assumption | ((repeat' (first | exact True.intro | apply And.intro)) <;> walk_at "MINE lt"))
local macro_rules | `(tactic| walk_at "MINE n0") => `(tactic| first
  | exact Apart.ne (by assumption)
  | exact Nat.ne_of_lt (by assumption)
  | exact Under.ne (by assumption) (by walk_at "MINE at"))
local macro_rules | `(tactic| walk_at "MINE n1") => `(tactic| first
  | exact apart_use (by assumption) (by k_mem)
  | exact Asc.ne (by assumption) (by walk_at "MINE at") (by walk_at "MINE at") (by rfl)
  | exact Asc.low (by assumption) (by assumption) (by walk_at "MINE at") (by walk_at "MINE at") (by rfl)
  | exact Under.low (by assumption) (by assumption) (by walk_at "MINE at")
  | exact Asc.out (by assumption) (by assumption) (by walk_at "MINE at") (by walk_at "MINE at") (by walk_at "MINE at") (by rfl) (by rfl))
local macro_rules | `(tactic| k_ne) => `(tactic| first
  | walk_at "MINE n0"
  | (refine Ne.symm ?_; walk_at "MINE n0")
  | walk_at "MINE n1"
  | (refine Ne.symm ?_; walk_at "MINE n1")
  | (refine neN ?_; (try dsimp only); first
    | assumption
    | exact Ne.symm (by assumption)
    | omega
    | (simp only [Asc, AscB, Under] at *; omega)
    | fail "apart"))
local macro_rules | `(tactic| k_all) => `(tactic| first | exact List.forall_mem_nil _ | exact under_all (by assumption) (by rfl) | (refine' all_cons ?a ?b; (case a => k_ne); (case b => k_all)))
local macro_rules | `(tactic| lcg_sub) => `(tactic| first | exact List.forall_mem_nil _ | refine sub_cons (by k_mem) (by lcg_sub))
local macro_rules | `(tactic| walk_at "MINE enter") => `(tactic| k_dflt (refine' code_defR (touched := _) ?B ?F ?X ?N ?T ?ks ?kA ?kF ?kK ?k6 ?k7 ?k8 ?k9 ?kB ?_ ?c2 ?c3 ?c4 ?c5; (case B => assumption); (case F => assumption); (case X => assumption); (case N => assumption); (case T => assumption); (case ks => assumption); (case kA => exact rfl); (case kF => exact rfl); (case kK => assumption); (case k6 => k_is); (case k7 => k_is); (case k8 => ktr_room); (case k9 => first | exact BindsTo.of_eq rfl | exact binds_K (by k_in) rfl (by k_is) rfl rfl rfl); (case c5 => decide); (case kB => exact locs rfl); (case c2 => exact rfl); (case c3 => exact rfl); (case c4 => exact rfl); k_whole; intro g' L' h' FG' F' N' B' X' T'; (try dsimp only); (try k_fold)))
local macro_rules | `(tactic| walk_at "MINE enter2") => `(tactic| k_dflt (refine' code_defR2 (touched := _) ?B ?F ?X ?N ?T ?ks ?kA ?kF ?kK ?k6 ?k7 ?k8 ?k9 ?kB ?_ ?c2 ?c3 ?c4 ?c5; (case B => assumption); (case F => assumption); (case X => assumption); (case N => assumption); (case T => assumption); (case ks => assumption); (case kA => exact rfl); (case kF => exact rfl); (case kK => assumption); (case k6 => k_is); (case k7 => k_is); (case k8 => ktr_room); (case k9 => first | exact BindsTo.of_eq rfl | exact binds_K (by k_in) rfl (by k_is) rfl rfl rfl); (case c5 => decide); (case kB => exact locs rfl); (case c2 => exact rfl); (case c3 => exact rfl); (case c4 => exact rfl); k_whole; intro g' L' h' FG' F' N' B' X' T' hgr'; (try dsimp only); (try k_fold)))
local macro_rules | `(tactic| walk_at "MINE enterC") => `(tactic| k_dflt (refine' code_defCR (touched := _) ?B ?F ?X ?N ?T ?ks ?kA ?kF ?kK ?k6 ?k7 ?k8 ?k9 ?kB ?kD ?_ ?c2 ?c3 ?c4; (case B => assumption); (case F => assumption); (case X => assumption); (case N => assumption); (case T => assumption); (case ks => assumption); (case kA => exact rfl); (case kF => exact rfl); (case kK => assumption); (case k6 => k_is); (case k7 => k_is); (case k8 => ktr_room); (case k9 => exact BindsTo.of_eq rfl); (case kB => exact rfl); (case kD => decide +kernel); (case c2 => exact rfl); (case c3 => exact rfl); (case c4 => exact rfl); k_whole; intro g' L' h' tk' cells' FG' F' N' Y' B' X' T' l1; (try k_lt l1); k_cells Y'; (try simp only [List.cons_append, List.nil_append] at N'); (try dsimp only); (try k_fold)))

section PartDraw
set_option maxHeartbeats 8000000 in
theorem draw_call {w : World} {dp un : Nat} {gd : Option (List Code)} {cn : Str} {cs : Scope} {L a : Addr} {ccd : Value} {cl : List (Str × Addr)} {outer : List Env} {A₀ : Around} {base h₀ : Heap} {m mg mb : Str → Option Value} {news : List (Addr × Obj)} {s : Shared} {loose : List Str} {mean : ExcName → Option Value} {Q E : Value → Shared → Prop}
    {D l : Addr} {k many : Int} {t tm : Tok} {n c : Nat} {ys : List Value} {ns : List Int}
    (B : Below A₀ base outer h₀) (F : Fr h₀ L s.heap m) (X : (hd.heap_39 w.params).In h₀) (N : News h₀ L s.heap news) (T : Top hd.view_39 loose mean mg mb h₀) (hk : cs.kind = .function) (hdp : dp + 1 < recursionLimit) (hun : un + 8 < cLine)
    (hD : (D, listOf #[.ref l, .int k t] n) ∈ news) (hl : (l, listOf ys.toArray c) ∈ news) (hne : @Ne Nat D l) (hi : IntsAre ys ns) (hlen : ns.length ≤ 63) (hk0 : 0 ≤ k) (hk1 : k ≤ 1000) (hm0 : 0 < many) (hm1 : many ≤ 1000)
    (ret : ∀ r tr t' h' tk', 0 ≤ r → r < many → Fr h₀ L h' m → (∀ news', (∀ p ∈ news', p ∈ [(D, listOf #[.ref l, .int (k + 1) t'] n)] ∨ (p ∈ news ∧ ∀ q ∈ [(D, listOf #[.ref l, .int k t] n)], p.1 ≠ q.1)) → News h₀ L h' news') → Q (.int r tr) { s with heap := h', toks := tk' }) :
    wpAny (model PySem.Challenge.rw_oj0027_01.row.prog w) (ktrTop dp un gd cn cs L a ccd cl outer) (call (.ref 607) [.ref D, .int many tm]) Q E s := by
  refine wpAny_call ?_
  k_dflt (refine' code_defR (touched := [(D, listOf #[.ref l, .int k t] n), (l, listOf ys.toArray c)]) B F X N T ?ks ?kA ?kF ?kK ?k6 ?k7 ?k8 ?k9 ?kB ?_ ?c2 ?c3 ?c4 ?c5; (case ks => exact List.forall_mem_cons.mpr ⟨hD, List.forall_mem_cons.mpr ⟨hl, fun _ h => nomatch h⟩⟩); (case kA => exact rfl); (case kF => exact rfl); (case kK => assumption); (case k6 => k_is); (case k7 => k_is); (case k8 => ktr_room); (case k9 => exact BindsTo.of_eq rfl); (case c5 => decide); (case kB => exact locs rfl); (case c2 => exact rfl); (case c3 => exact rfl); (case c4 => exact rfl); k_whole; intro g' L' h' FG' F' N' B' X' T'; (try dsimp only); (try k_fold))
  clear B X F T
  k_steps
  all_goals (try dsimp only)
  all_goals (
    refine leaveK_ (by k_asm) (by k_asm) ?_
    intro kF kN hkept
    refine ret _ _ _ _ _ ?_ ?_ kF (fun news' hn => news_done (mods := [(D, listOf #[.ref l, .int k t] n)]) (reads := [(l, listOf ys.toArray c)]) N (List.forall_mem_cons.mpr ⟨hD, fun _ h => nomatch h⟩) (List.forall_mem_cons.mpr ⟨hl, fun _ h => nomatch h⟩) kN hkept hn))
  all_goals first | exact fmod_lo _ hm0 | exact fmod_hi _ hm0
end PartDraw

section PartView
/-- a view that reads a list of codes: a View (88) or a ToldView (178) -/
def ViewAt (C : Addr) (es : List DictEntry) (sg : Addr) (b : Int) : Prop :=
  (C = 88 ∧ ∃ h1 t1 h2 t2 tb, es = [⟨h1, .str (Str.ofString "codes") t1, .ref sg⟩, ⟨h2, .str (Str.ofString "first") t2, .int b tb⟩]) ∨
  (C = 178 ∧ ∃ h1 t1 h2 t2 tb h3 t3 v3 h4 t4 v4 h5 t5 v5 h6 t6 v6, es = [⟨h1, .str (Str.ofString "codes") t1, .ref sg⟩, ⟨h2, .str (Str.ofString "first") t2, .int b tb⟩, ⟨h3, .str (Str.ofString "faces") t3, v3⟩, ⟨h4, .str (Str.ofString "hidden") t4, v4⟩, ⟨h5, .str (Str.ofString "shown") t5, v5⟩, ⟨h6, .str (Str.ofString "strings") t6, v6⟩])

/-- the code at a place of a text that begins at b -/
def codeAt (ns : List Int) (b p : Int) : Int := if b ≤ p ∧ p < b + ns.length then ns.getD (p - b).toNat 0 else -1


section
variable {w : World} {dp un : Nat} {gd : Option (List Code)} {cn : Str} {cs : Scope} {L a : Addr} {ccd : Value} {cl : List (Str × Addr)} {outer : List Env} {A₀ : Around} {base h₀ : Heap} {m mg mb : Str → Option Value} {news : List (Addr × Obj)} {s : Shared} {loose : List Str} {mean : ExcName → Option Value} {Q E : Value → Shared → Prop}

theorem news_same {h h' : Heap} {touched : List (Addr × Obj)} (N : News h₀ L h news) (hs : ∀ q ∈ touched, q ∈ news) (N' : News h₀ L h' touched) (kept : Kept news touched h') : News h₀ L h' news :=
  news_done (mods := []) (mods' := []) (reads := touched) N (fun _ h => nomatch h) hs N' kept fun p hp => .inr ⟨hp, fun _ h => nomatch h⟩

set_option maxHeartbeats 8000000 in
theorem view_begin {C v vd sg : Addr} {es : List DictEntry} {n : Nat} {b : Int} (hv : ViewAt C es sg b)
    (B : Below A₀ base outer h₀) (F : Fr h₀ L s.heap m) (X : (hd.heap_39 w.params).In h₀) (N : News h₀ L s.heap news) (T : Top hd.view_39 loose mean mg mb h₀) (hk : cs.kind = .function) (hdp : dp + 1 < recursionLimit)
    (ks : ∀ q ∈ [(v, instObj C vd), (vd, dictOf es n)], q ∈ news)
    (ret : ∀ t h' tk', Fr h₀ L h' m → News h₀ L h' news → Q (.int b t) { s with heap := h', toks := tk' }) :
    wpAny (model PySem.Challenge.rw_oj0027_01.row.prog w) (ktrTop dp un gd cn cs L a ccd cl outer) (call (.ref 43) [.ref v]) Q E s := by
  refine wpAny_call ?_
  walk_at "MINE enter"
  clear B X F T
  rcases hv with ⟨rfl, h1, t1, h2, t2, tb, rfl⟩ | ⟨rfl, h1, t1, h2, t2, tb, h3, t3, v3, h4, t4, v4, h5, t5, v5, h6, t6, v6, rfl⟩
  all_goals k_steps
  all_goals (try dsimp only)
  all_goals (
    refine leaveK_ (by k_asm) (by k_asm) ?_
    intro kF kN hkept
    exact ret _ _ _ kF (news_same N ks kN hkept))

set_option maxHeartbeats 8000000 in
theorem view_end {C v vd sg : Addr} {es : List DictEntry} {n c : Nat} {b : Int} {ys : List Value} {ns : List Int} (hv : ViewAt C es sg b)
    (B : Below A₀ base outer h₀) (F : Fr h₀ L s.heap m) (X : (hd.heap_39 w.params).In h₀) (N : News h₀ L s.heap news) (T : Top hd.view_39 loose mean mg mb h₀) (hk : cs.kind = .function) (hdp : dp + 1 < recursionLimit)
    (hi : IntsAre ys ns) (hlen : ns.length ≤ 1000)
    (ks : ∀ q ∈ [(v, instObj C vd), (vd, dictOf es n), (sg, listOf ys.toArray c)], q ∈ news)
    (ret : ∀ t h' tk', Fr h₀ L h' m → News h₀ L h' news → Q (.int (b + ns.length) t) { s with heap := h', toks := tk' }) :
    wpAny (model PySem.Challenge.rw_oj0027_01.row.prog w) (ktrTop dp un gd cn cs L a ccd cl outer) (call (.ref 50) [.ref v]) Q E s := by
  refine wpAny_call ?_
  walk_at "MINE enter"
  clear B X F T
  rcases hv with ⟨rfl, h1, t1, h2, t2, tb, rfl⟩ | ⟨rfl, h1, t1, h2, t2, tb, h3, t3, v3, h4, t4, v4, h5, t5, v5, h6, t6, v6, rfl⟩
  all_goals k_steps
  all_goals (try dsimp only)
  all_goals (
    refine leaveK_ (by k_asm) (by k_asm) ?_
    intro kF kN hkept
    exact ret _ _ _ kF (news_same N ks kN hkept))


theorem codeAt_in {ns : List Int} {b p : Int} (h1 : b ≤ p) (h2 : p < b + ns.length) : ns.getD (p - b).toNat 0 = codeAt ns b p := by unfold codeAt; rw [if_pos ⟨h1, h2⟩]
theorem codeAt_lo {ns : List Int} {b p : Int} (h1 : ¬ b ≤ p) : -1 = codeAt ns b p := by unfold codeAt; rw [if_neg fun h => h1 h.1]
theorem codeAt_hi {ns : List Int} {b p : Int} (h1 : ¬ p < b + ns.length) : -1 = codeAt ns b p := by unfold codeAt; rw [if_neg fun h => h1 h.2]
theorem ret_int {s : Shared} {h' : Heap} {tk' : Nat} {x y : Int} {t : Tok} (h : Q (.int x t) { s with heap := h', toks := tk' }) (e : y = x) : Q (.int y t) { s with heap := h', toks := tk' } := by rw [e]; exact h

set_option maxHeartbeats 8000000 in
theorem view_code {C v vd sg : Addr} {es : List DictEntry} {n c : Nat} {b p : Int} {tp : Tok} {ys : List Value} {ns : List Int} (hv : ViewAt C es sg b)
    (B : Below A₀ base outer h₀) (F : Fr h₀ L s.heap m) (X : (hd.heap_39 w.params).In h₀) (N : News h₀ L s.heap news) (T : Top hd.view_39 loose mean mg mb h₀) (hk : cs.kind = .function) (hdp : dp + 2 < recursionLimit)
    (hi : IntsAre ys ns) (hlen : ns.length ≤ 1000)
    (ks : ∀ q ∈ [(v, instObj C vd), (vd, dictOf es n), (sg, listOf ys.toArray c)], q ∈ news)
    (ret : ∀ t h' tk', Fr h₀ L h' m → News h₀ L h' news → Q (.int (codeAt ns b p) t) { s with heap := h', toks := tk' }) :
    wpAny (model PySem.Challenge.rw_oj0027_01.row.prog w) (ktrTop dp un gd cn cs L a ccd cl outer) (call (.ref 57) [.ref v, .int p tp]) Q E s := by
  refine wpAny_call ?_
  walk_at "MINE enter"
  clear B X F T
  have hv' := hv
  rcases hv with ⟨rfl, h1, t1, h2, t2, tb, rfl⟩ | ⟨rfl, h1, t1, h2, t2, tb, h3, t3, v3, h4, t4, v4, h5, t5, v5, h6, t6, v6, rfl⟩
  all_goals (repeat' (first
    | (k_here; k_dflt ((with_reducible show wpAny _ _ (call (Value.ref _) _) _ _ _); first
      | ((with_reducible show wpAny _ _ (call (Value.ref 43) _) _ _ _); apply view_begin; (case hv => assumption); (case hk => first | exact rfl | assumption); (case B => k_asm); (case F => k_asm); (case X => k_asm); (case N => k_asm); (case T => k_asm); (case hdp => ktr_room); (case ks => lcg_sub); k_whole; intro t₉ h₉ tk₉ F₉ N₉; skip)
      | ((with_reducible show wpAny _ _ (call (Value.ref 50) _) _ _ _); apply view_end; (case hv => assumption); (case hk => first | exact rfl | assumption); (case B => k_asm); (case F => k_asm); (case X => k_asm); (case N => k_asm); (case T => k_asm); (case hdp => ktr_room); (case hi => assumption); (case hlen => assumption); (case ks => lcg_sub); k_whole; intro t₉ h₉ tk₉ F₉ N₉; skip)
      ); (try dsimp only); (try k_fold))
    | (k_unfold; (try dsimp only)) | (k_end; wrow_close) | walk1 | (dsimp only; walk1) | (leave1; walk_say "STEP leave1"; try dsimp only) | fail "no step"))
  all_goals (try dsimp only)
  all_goals (
    refine leaveK_ (by k_asm) (by k_asm) ?_
    intro kF kN hkept
    refine ret_int (ret _ _ _ kF (news_same N ks kN hkept)) ?_)
  all_goals first | exact codeAt_in (by assumption) (by assumption) | exact codeAt_lo (by assumption) | exact codeAt_hi (by assumption)
end
end PartView

section PartPlain
theorem heard_eq (ns : List Int) (b : Int) (f : Int → Int) (hf : ∀ k, f k = codeAt ns b k) :
    (rangeKs (b - 2) (b + (ns.length : Int) + 2 - (b - 2)).toNat).map f = [-1, -1] ++ ns ++ [-1, -1] := by
  have e : (b + (ns.length : Int) + 2 - (b - 2)).toNat = ns.length + 4 := by omega
  rw [e]
  apply List.ext_getElem
  · simp [rangeKs]
  · intro i h1 h2
    have hi : i < ns.length + 4 := by simpa [rangeKs] using h1
    simp only [rangeKs, List.map_map, List.getElem_map, List.getElem_range, Function.comp, hf]
    unfold codeAt
    by_cases h3 : i < 2
    · rw [if_neg (by omega), List.getElem_append_left (by simp; omega), List.getElem_append_left (by simpa using h3)]
      rcases i with _ | _ | i
      · rfl
      · rfl
      · omega
    · by_cases h4 : i < ns.length + 2
      · rw [if_pos (by constructor <;> omega), List.getElem_append_left (by simp; omega), List.getElem_append_right (by simp; omega)]
        have e2 : (b - 2 + (i : Int) - b).toNat = i - 2 := by omega
        rw [e2, List.getD_eq_getElem?_getD, List.getElem?_eq_getElem (by omega)]
        rfl
      · rw [if_neg (by omega), List.getElem_append_right (by simp; omega)]
        have e3 : i - ([-1, -1] ++ ns).length = i - ns.length - 2 := by simp; omega
        have h5 : i - ns.length - 2 < 2 := by omega
        have h6 : ∀ j (hj : j < ([-1, -1] : List Int).length), ([-1, -1] : List Int)[j] = -1 := by
          intro j hj
          rcases j with _ | _ | j
          · rfl
          · rfl
          · simp at hj; omega
        exact (h6 _ _).symm
end PartPlain

section PartIsText
section
variable {w : World} {dp un : Nat} {gd : Option (List Code)} {cn : Str} {cs : Scope} {L a : Addr} {ccd : Value} {cl : List (Str × Addr)} {outer : List Env} {A₀ : Around} {base h₀ : Heap} {m mg mb : Str → Option Value} {news : List (Addr × Obj)} {s : Shared} {loose : List Str} {mean : ExcName → Option Value} {Q E : Value → Shared → Prop}

set_option maxHeartbeats 8000000 in
theorem text_view {C v vd sg kp : Addr} {es : List DictEntry} {n c c' : Nat} {b : Int} {ys zs : List Value} {ns : List Int} {tb : Tok} (hv : ViewAt C es sg b)
    (B : Below A₀ base outer h₀) (F : Fr h₀ L s.heap m) (X : (hd.heap_39 w.params).In h₀) (N : News h₀ L s.heap news) (T : Top hd.view_39 loose mean mg mb h₀) (hk : cs.kind = .function) (hdp : dp + 4 < recursionLimit) (hun : un + 100 < cLine)
    (hi : IntsAre ys ns) (hi' : IntsAre zs ns) (hlen : ns.length ≤ 1000) (hb0 : 0 ≤ b) (hb1 : b ≤ 1000)
    (ks : ∀ q ∈ [(v, instObj C vd), (vd, dictOf es n), (sg, listOf ys.toArray c), (kp, listOf zs.toArray c')], q ∈ news)
    (ret : ∀ h' tk', Fr h₀ L h' m → News h₀ L h' news → Q (.bool true) { s with heap := h', toks := tk' }) :
    wpAny (model PySem.Challenge.rw_oj0027_01.row.prog w) (ktrTop dp un gd cn cs L a ccd cl outer) (call (.ref 612) [.ref v, .int b tb, .ref kp]) Q E s := by
  refine wpAny_call ?_
  walk_at "MINE enterC"
  clear B X F T
  have hv' := hv
  rcases hv with ⟨rfl, h1, t1, h2, t2, tb, rfl⟩ | ⟨rfl, h1, t1, h2, t2, tb, h3, t3, v3, h4, t4, v4, h5, t5, v5, h6, t6, v6, rfl⟩
  all_goals (repeat' (first
    | (k_here; k_dflt ((with_reducible show wpAny _ _ (call (Value.ref _) _) _ _ _); first
      | ((with_reducible show wpAny _ _ (call (Value.ref 43) _) _ _ _); apply view_begin; (case hv => assumption); (case hk => first | exact rfl | assumption); (case B => k_asm); (case F => k_asm); (case X => k_asm); (case N => k_asm); (case T => k_asm); (case hdp => ktr_room); (case ks => lcg_sub); k_whole; intro t₉ h₉ tk₉ F₉ N₉; skip)
      | ((with_reducible show wpAny _ _ (call (Value.ref 50) _) _ _ _); apply view_end; (case hv => assumption); (case hk => first | exact rfl | assumption); (case B => k_asm); (case F => k_asm); (case X => k_asm); (case N => k_asm); (case T => k_asm); (case hdp => ktr_room); (case ks => lcg_sub); (case hi => assumption); (case hlen => assumption); k_whole; intro t₉ h₉ tk₉ F₉ N₉; skip)
      | ((with_reducible show wpAny _ _ (call (Value.ref 57) _) _ _ _); apply view_code; (case hv => assumption); (case hk => first | exact rfl | assumption); (case B => k_asm); (case F => k_asm); (case X => k_asm); (case N => k_asm); (case T => k_asm); (case hdp => ktr_room); (case ks => lcg_sub); (case hi => assumption); (case hlen => assumption); k_whole; intro t₉ h₉ tk₉ F₉ N₉; skip)
      ); (try dsimp only); (try k_fold))
    | (k_unfold; (try dsimp only)) | (k_end; wrow_close) | walk1 | (dsimp only; walk1) | (leave1; walk_say "STEP leave1"; try dsimp only) | fail "no step"))
  all_goals (try dsimp only)
  all_goals (
    refine leaveK_ (by k_asm) (by k_asm) ?_
    intro kF kN hkept
    rw [heard_eq ns b _ (fun _ => rfl), decide_eq_true rfl]
    exact ret _ _ kF (news_same N ks (news_sub kN (by lcg_sub)) hkept))
end
end PartIsText

section PartIsPlain
/-- a view that tells nothing of its places: a View (88), a TextView (130) -/
def PlainAt (C : Addr) (es : List DictEntry) : Prop :=
  (C = 88 ∧ ∃ h1 t1 v1 h2 t2 v2, es = [⟨h1, .str (Str.ofString "codes") t1, v1⟩, ⟨h2, .str (Str.ofString "first") t2, v2⟩]) ∨
  (C = 130 ∧ ∃ h1 t1 v1 h2 t2 v2 h3 t3 v3, es = [⟨h1, .str (Str.ofString "codes") t1, v1⟩, ⟨h2, .str (Str.ofString "first") t2, v2⟩, ⟨h3, .str (Str.ofString "text") t3, v3⟩])

section
variable {w : World} {dp un : Nat} {gd : Option (List Code)} {cn : Str} {cs : Scope} {L a : Addr} {ccd : Value} {cl : List (Str × Addr)} {outer : List Env} {A₀ : Around} {base h₀ : Heap} {m mg mb : Str → Option Value} {news : List (Addr × Obj)} {s : Shared} {loose : List Str} {mean : ExcName → Option Value} {Q E : Value → Shared → Prop}

set_option maxHeartbeats 8000000 in
theorem plain_view {C v vd : Addr} {es : List DictEntry} {n : Nat} {p : Int} {tp : Tok} (hv : PlainAt C es)
    (B : Below A₀ base outer h₀) (F : Fr h₀ L s.heap m) (X : (hd.heap_39 w.params).In h₀) (N : News h₀ L s.heap news) (T : Top hd.view_39 loose mean mg mb h₀) (hk : cs.kind = .function) (hdp : dp + 4 < recursionLimit) (hun : un + 100 < cLine)
    (ks : ∀ q ∈ [(v, instObj C vd), (vd, dictOf es n)], q ∈ news)
    (ret : ∀ h' tk', Fr h₀ L h' m → News h₀ L h' news → Q (.bool true) { s with heap := h', toks := tk' }) :
    wpAny (model PySem.Challenge.rw_oj0027_01.row.prog w) (ktrTop dp un gd cn cs L a ccd cl outer) (call (.ref 619) [.ref v, .int p tp]) Q E s := by
  refine wpAny_call ?_
  walk_at "MINE enter"
  clear B X F T
  rcases hv with ⟨rfl, h1, t1, v1, h2, t2, v2, rfl⟩ | ⟨rfl, h1, t1, v1, h2, t2, v2, h3, t3, v3, rfl⟩
  all_goals k_steps
  all_goals (try dsimp only)
  all_goals (
    refine leaveK_ (by k_asm) (by k_asm) ?_
    intro kF kN hkept
    exact ret _ _ kF (news_same N ks (news_sub kN (by lcg_sub)) hkept))
end
end PartIsPlain

section PartSlice
theorem bounds_in {lo hi : Int} {n : Nat} (h0 : 0 ≤ lo) (h1 : lo ≤ hi) (h2 : hi ≤ n) : sliceBounds (some lo) (some hi) none n = (lo, hi, 1) := by
  have e1 : ¬ lo < 0 := by walk_at "MINE om"
  have e2 : ¬ hi < 0 := by walk_at "MINE om"
  simp only [sliceBounds, Option.getD_none, e1, e2, if_false, show (1 : Int) > 0 by decide, if_true]
  congr 1
  · walk_at "MINE om"
  · congr 1; walk_at "MINE om"

theorem extract_eq (its new : Array Value) (a b : Nat) (hb : b ≤ its.size) : its.extract 0 a ++ new ++ its.extract b its.size = (its.toList.take a ++ new.toList ++ its.toList.drop b).toArray := by
  apply Array.toList_inj.mp
  have e1 : (its.extract 0 a).toList = its.toList.take a := by simp [List.extract]
  have e2 : (its.extract b its.size).toList = its.toList.drop b := by
    simp only [Array.toList_extract, List.extract]
    exact List.take_of_length_le (by simp)
  rw [Array.toList_append, Array.toList_append, e1, e2]

theorem wpAny_listItems {M : Model} {A : Around} {E : Value → Shared → Prop} {s : Shared} {a : Addr} {its : Array Value} {c : Nat} {Q : Array Value → Shared → Prop} (ho : s.heap.get? a = some (listOf its c)) (h : Q its s) :
    wpAny M A (Builtin.List.listItems (.ref a)) Q E s := by
  unfold Builtin.List.listItems
  exact wpAny_bind (wpAny_seqItems ho rfl (wpAny_pure h))
theorem wpAny_listAllItems {M : Model} {A : Around} {E : Value → Shared → Prop} {s : Shared} {a : Addr} {its : Array Value} {c : Nat} {msg : String} {Q : Array Value → Shared → Prop} (ho : s.heap.get? a = some (listOf its c)) (h : Q its s) :
    wpAny M A (Builtin.List.listAllItems (.ref a) msg) Q E s := by
  have hV : s.heap.IsList a its := ⟨_, ho, rfl, _, rfl⟩
  unfold Builtin.List.listAllItems
  refine wpAny_bind (wpAny_typeOf hV.typeIs ?_)
  rw [if_pos (by decide)]
  exact wpAny_listItems ho h

section
variable {prog : Program} {w : World} {A : Around} {E : Value → Shared → Prop} {s : Shared} {h₀ : Heap} {L l v : Addr} {m : Str → Option Value} {news news' : List (Addr × Obj)} {its new : Array Value} {c cv : Nat} {vl vu : Value} {lo hi : Int} {Q : Unit → Shared → Prop}

theorem setItem_slice {sl : Addr} (hl : s.heap.get? l = some (listOf its c)) (hs : s.heap.IsSliceOf sl vl vu .none) (hv : s.heap.get? v = some (listOf new cv)) (hne : v ≠ l)
    (pl : IsPart vl (some lo)) (pu : IsPart vu (some hi)) (h0 : 0 ≤ lo) (h1 : lo ≤ hi) (h2 : hi ≤ its.size) (hz : its.size + new.size ≤ 16777216)
    (h : Q () { s with heap := s.heap.update l (Obj.mapSeq fun xs => xs.extract 0 lo.toNat ++ new ++ xs.extract (max lo hi).toNat xs.size) }) :
    wpAny (model prog w) A (setItem (.ref l) (.ref sl) (.ref v)) Q E s := by
  have hL : s.heap.IsList l its := ⟨_, hl, rfl, _, rfl⟩
  have hV : s.heap.IsList v new := ⟨_, hv, rfl, _, rfl⟩
  obtain ⟨os, hos, hcs, hds⟩ := id hs
  have hTs : s.TypeIs (.ref sl) "slice" := ⟨os, hos, hcs⟩
  unfold setItem
  refine wpAny_holding ?_
  refine wpAny_bind (wpAny_sequenceKey hL.typeIs (by decide) ?_)
  refine wpAny_bind (wpAny_callSpecial?_slot (name := Str.ofString "__setitem__") hL.typeIs slot_list_setitem
    (wpAny_call_entry slot_list_setitem hL.typeIs entry_list_setitem ?_ (args_list_setitem _ _ _)))
  show wpAny _ _ (Builtin.List.listSubscript? (.ref sl) >>= _) _ _ s
  refine wpAny_bind ?_
  unfold Builtin.List.listSubscript?
  refine wpAny_bind (wpAny_specialOf hTs slice_no_index ?_)
  simp only [Option.isNone_none, if_true]
  refine wpAny_pure ?_
  show wpAny _ _ (typeOf (.ref sl) >>= _) _ _ s
  refine wpAny_bind (wpAny_typeOf hTs ?_)
  rw [if_neg (by decide)]
  rw [listSliceParts_eq]
  refine wpAny_bind (wpAny_bind (wpAny_field hos hds (x := .none) rfl (wpAny_bind (wpAny_listPart .none ?_))))
  rw [if_neg (show ¬ ((rawPart none == rawInt 0) = true) from Bool.false_ne_true)]
  refine wpAny_bind (wpAny_field hos hds (x := vl) rfl (wpAny_bind (wpAny_listPart pl ?_)))
  refine wpAny_bind (wpAny_field hos hds (x := vu) rfl (wpAny_bind (wpAny_listPart pu (wpAny_pure ?_))))
  dsimp only
  have hnr : Builtin.List.listSameRef (.ref l) (.ref v) = false := by
    unfold Builtin.List.listSameRef
    simpa using Ne.symm hne
  rw [hnr]
  simp only [Bool.false_eq_true, if_false]
  refine wpAny_bind (wpAny_listAllItems hv ?_)
  refine wpAny_bind (wpAny_listItems hl ?_)
  refine wpAny_bind (wpAny_of_eq (sliceIndices_raw (some lo) (some hi) none its.size (by simp)) ?_)
  rw [bounds_in h0 h1 h2]
  dsimp only
  rw [if_pos (by decide)]
  refine wpAny_bind (wpAny_rule ?_)
  have ht : ¬ Builtin.List.listTooLong (its.size + new.size) = true := by
    unfold Builtin.List.listTooLong
    rw [sizeLine_eq]
    simpa using hz
  rw [if_neg ht]
  refine wpAny_bind (m := updateSeq l _) (wpAny_updateSeq hl rfl ?_ (by rw [sizeLine_eq]; walk_at "MINE om") ?_)
  · exact wpAny_bind (wpAny_letGo (wpAny_pure ⟨_, rfl, wpAny_pure h⟩))
  · rw [sizeLine_eq]
    simp only [Array.size_append, Array.size_extract]
    walk_at "MINE om"

/-- a slice of a list of the ledger is overwritten by another list of the ledger -/
theorem store_slice (F : Fr h₀ L s.heap m) (N : News h₀ L s.heap news) (hl : (l, listOf its c) ∈ news) (hv : (v, listOf new cv) ∈ news) (hne : v ≠ l)
    (pl : IsPart vl (some lo)) (pu : IsPart vu (some hi)) (h0 : 0 ≤ lo) (h1 : lo ≤ hi) (h2 : hi ≤ its.size) (hz : its.size + new.size ≤ 16777216)
    (h : ∀ h' c', Fr h₀ L h' m → (∀ news', (∀ p ∈ news', p ∈ [(l, listOf (its.toList.take lo.toNat ++ new.toList ++ its.toList.drop hi.toNat).toArray c')] ∨ (p ∈ news ∧ p.1 ≠ l)) → News h₀ L h' news') → Q () { s with heap := h' }) :
    wpAny (model prog w) A (setItem (.ref l) (.ref s.heap.objs.size) (.ref v)) Q E { s with heap := s.heap.push { cls := .type "slice", data := .fields #[vl, vu, .none] } } := by
  have up : ∀ b o, s.heap.get? b = some o → (s.heap.push { cls := .type "slice", data := .fields #[vl, vu, .none] }).get? b = some o := fun b o e => Heap.get?_push_of_some _ e
  have zl := N _ hl
  have F₁ : Fr h₀ L (s.heap.push { cls := .type "slice", data := .fields #[vl, vu, .none] }) m := F.push _
  have hsame := Heap.SameBut.update (s.heap.push { cls := .type "slice", data := .fields #[vl, vu, .none] }) l (Obj.mapSeq fun xs => xs.extract 0 lo.toNat ++ new ++ xs.extract (max lo hi).toNat xs.size)
  refine setItem_slice (up _ _ zl.1) (Heap.IsSliceOf.new ..) (up _ _ (N _ hv).1) hne pl pu h0 h1 h2 hz ?_
  refine h _ (if (its.toList.take lo.toNat ++ new.toList ++ its.toList.drop hi.toNat).toArray.size == its.size then c else c + 1) (F₁.change hsame zl.2.1 zl.2.2) fun news' hn p hp => ?_
  rcases hn p hp with h3 | ⟨h3, h4⟩
  · rw [List.mem_singleton.mp h3]
    refine ⟨?_, zl.2⟩
    have e : (Obj.mapSeq (fun xs => xs.extract 0 lo.toNat ++ new ++ xs.extract (max lo hi).toNat xs.size) (listOf its c)) = listOf (its.toList.take lo.toNat ++ new.toList ++ its.toList.drop hi.toNat).toArray (if (its.toList.take lo.toNat ++ new.toList ++ its.toList.drop hi.toNat).toArray.size == its.size then c else c + 1) := by
      have e2 : max lo hi = hi := by walk_at "MINE om"
      simp only [Obj.mapSeq, e2]
      rw [extract_eq its new lo.toNat hi.toNat (by walk_at "MINE om")]
    rw [← e]
    exact Heap.get?_update_self _ (up _ _ zl.1) rfl
  · exact ⟨(hsame.2 _ h4).trans (up _ _ (N p h3).1), (N p h3).2⟩

theorem ints_take {vs : List Value} {ns : List Int} (h : IntsAre vs ns) : ∀ k : Nat, IntsAre (vs.take k) (ns.take k) := by
  induction h with
  | nil => intro k; simpa using IntsAre.nil
  | cons n t r ih =>
    intro k
    cases k with
    | zero => simpa using IntsAre.nil
    | succ k => simpa using IntsAre.cons n t (ih k)
theorem ints_drop {vs : List Value} {ns : List Int} (h : IntsAre vs ns) : ∀ k : Nat, IntsAre (vs.drop k) (ns.drop k) := by
  induction h with
  | nil => intro k; simpa using IntsAre.nil
  | cons n t r ih =>
    intro k
    cases k with
    | zero => simpa using IntsAre.cons n t r
    | succ k => simpa using ih k

/-- the same over ints, the ledger told -/
theorem store_ints {ys zs : List Value} {ns ms : List Int} {g : Obj → List (Addr × Obj)} (F : Fr h₀ L s.heap m) (N : News h₀ L s.heap news) (U : UpdF l (W.listOf ys.toArray c) news g) (hv : (v, W.listOf zs.toArray cv) ∈ news) (hne : @Ne Nat v l)
    (pl : IsPart vl (some lo)) (pu : IsPart vu (some hi)) (hi1 : IntsAre ys ns) (hi2 : IntsAre zs ms) (h0 : 0 ≤ lo) (h1 : lo ≤ hi) (h2 : hi ≤ ns.length) (hz : ns.length + ms.length ≤ 16777216)
    (h : ∀ h' ws rs c', IntsAre ws rs → rs = ns.take lo.toNat ++ ms ++ ns.drop hi.toNat → (rs.length : Int) = lo + ms.length + (ns.length - hi) → Fr h₀ L h' m → News h₀ L h' (g (W.listOf (List.toArray ws) c')) → Q () { s with heap := h' }) :
    wpAny (model prog w) A (setItem (.ref l) (.ref s.heap.objs.size) (.ref v)) Q E { s with heap := s.heap.push { cls := .type "slice", data := .fields #[vl, vu, .none] } } := by
  obtain ⟨pre, post, hnews, hg, ha, hb⟩ := U.split
  have e1 := hi1.length
  have e2 := hi2.length
  refine store_slice F N (by rw [hnews]; exact List.mem_append_right _ (.head _)) hv hne pl pu h0 h1 (by rw [List.size_toArray, e1]; exact h2) (by rw [List.size_toArray, List.size_toArray, e1, e2]; exact hz) fun h' c' F' N' => ?_
  refine h h' (ys.take lo.toNat ++ zs ++ ys.drop hi.toNat) _ c' (((ints_take hi1 _).append hi2).append (ints_drop hi1 _)) rfl ?_ F' (N' _ fun p hp => ?_)
  · simp only [List.length_append, List.length_take, List.length_drop]
    walk_at "MINE om"
  · rw [hg] at hp
    rcases List.mem_append.mp hp with hp | hp
    · exact .inr ⟨by rw [hnews]; exact List.mem_append_left _ hp, ha p hp⟩
    · rcases List.mem_cons.mp hp with rfl | hp
      · exact .inl (by simp)
      · exact .inr ⟨by rw [hnews]; exact List.mem_append_right _ (.tail _ hp), hb p hp⟩
end
end PartSlice

local macro_rules | `(tactic| walk_at "setItem ref ref") => `(tactic| (k_here; k_dflt (refine' store_ints ?F ?N ?U ?hv ?hne ?pl ?pu ?hi1 ?hi2 ?h0 ?h1 ?h2 ?hz ?_; (case F => k_asm); (case N => k_asm); (case pl => exact IsPart.int _ _); (case pu => exact IsPart.int _ _); (case U => k_updF); (case hv => k_mem); (case hne => k_ne); (case hi1 => assumption); (case hi2 => assumption); (case h0 => omega); (case h1 => omega); (case h2 => omega); (case hz => omega); k_whole); intro h' ws' rs' c' hi' hr' hl' F' N'; (try dsimp only at N')))

section PartGapPlain
/-- the cells, the gap from gs to ge: the text -/
def GapHas (ns : List Int) (gs ge : Int) (tx : List Int) : Prop := 0 ≤ gs ∧ gs ≤ ge ∧ ge ≤ ns.length ∧ tx = ns.take gs.toNat ++ ns.drop ge.toNat

theorem cut_at {l : List Int} {p : Int} (h0 : 0 ≤ p) (h1 : p ≤ l.length) : ∃ X Y : List Int, l = X ++ Y ∧ p = X.length := by
  obtain ⟨n, rfl⟩ := Int.eq_ofNat_of_zero_le h0
  exact ⟨l.take n, l.drop n, (List.take_append_drop n l).symm, by rw [List.length_take, Nat.min_eq_left (Int.ofNat_le.mp h1)]⟩
theorem int_add {a b c : Int} (h : c = a + b) : b = c - a := by omega
theorem len_app (X Y : List Int) : ((X ++ Y).length : Int) = X.length + Y.length := by rw [List.length_append]; rfl
/-- the text, the gap and the rest apart -/
theorem GapHas.cut {ns tx : List Int} {gs ge : Int} (h : GapHas ns gs ge tx) : ∃ A G B : List Int, ns = A ++ (G ++ B) ∧ gs = A.length ∧ ge = A.length + G.length ∧ tx = A ++ B := by
  obtain ⟨a, b, c, rfl⟩ := h
  obtain ⟨X, B, rfl, rfl⟩ := cut_at (Int.le_trans a b) c
  obtain ⟨A, G, rfl, rfl⟩ := cut_at a b
  refine ⟨A, G, B, List.append_assoc A G B, rfl, len_app A G, ?_⟩
  rw [Int.toNat_natCast, Int.toNat_natCast, List.drop_left, List.append_assoc, List.take_left]
theorem gap_mk {A G B ns tx : List Int} {gs ge : Int} (h1 : ns = A ++ (G ++ B)) (h2 : gs = A.length) (h3 : ge = A.length + G.length) (h4 : tx = A ++ B) : GapHas ns gs ge tx := by
  subst h1 h2 h3 h4
  refine ⟨Int.natCast_nonneg _, Int.le_add_of_nonneg_right (Int.natCast_nonneg _), ?_, ?_⟩
  · rw [len_app, len_app, ← Int.add_assoc]; exact Int.le_add_of_nonneg_right (Int.natCast_nonneg _)
  · rw [Int.toNat_natCast, List.take_left, ← List.append_assoc A G B, ← len_app, Int.toNat_natCast, List.drop_left]
theorem take_int {X Y : List Int} {i : Int} (h : i = X.length) : List.take i.toNat (X ++ Y) = X := by subst h; rw [Int.toNat_natCast, List.take_left]
theorem drop_int {X Y : List Int} {i : Int} (h : i = X.length) : List.drop i.toNat (X ++ Y) = Y := by subst h; rw [Int.toNat_natCast, List.drop_left]
theorem part_eq {l X Y Z : List Int} {i j : Int} (hl : l = X ++ (Y ++ Z)) (hi : i = X.length) (hj : j = X.length + Y.length) : List.take (min j.toNat l.length - i.toNat) (List.drop i.toNat l) = Y := by
  subst hl hj
  rw [drop_int hi, hi, ← len_app, Int.toNat_natCast, Int.toNat_natCast, ← List.append_assoc, List.length_append (as := X ++ Y), Nat.min_eq_left (Nat.le_add_right _ _), List.length_append, Nat.add_sub_cancel_left, List.take_left]
theorem mid_eq {l X Y Z : List Int} {i d : Int} (hl : l = X ++ (Y ++ Z)) (hi : i = X.length) (hd : d = Y.length) : List.take d.toNat (List.drop i.toNat l) = Y := by
  subst hl
  rw [drop_int hi, take_int hd]

theorem part_len {l : List Int} {i j : Int} (h0 : 0 ≤ i) (h1 : i ≤ j) (h2 : j ≤ l.length) : ((List.take (min j.toNat l.length - i.toNat) (List.drop i.toNat l)).length : Int) = j - i := by
  obtain ⟨X, Z, rfl, rfl⟩ := cut_at (Int.le_trans h0 h1) h2
  obtain ⟨X, Y, rfl, rfl⟩ := cut_at h0 h1
  rw [part_eq (List.append_assoc X Y Z) rfl (len_app X Y)]
  exact int_add (len_app X Y)
theorem len_ins {rs tx z : List Int} {n : Nat} (h : rs = tx.take n ++ z ++ tx.drop n) : rs.length = tx.length + z.length := by
  rw [h, List.length_append, List.length_append, Nat.add_right_comm, ← List.length_append, List.take_append_drop]
theorem len_del {rs tx : List Int} {n m : Nat} (h : rs = tx.take n ++ tx.drop m) (e : Nat.ble n m = true) : rs.length ≤ tx.length := by
  rw [h, List.length_append]
  have h1 := congrArg List.length (List.take_append_drop n tx)
  rw [List.length_append] at h1
  rw [← h1, List.length_drop, List.length_drop]
  exact Nat.add_le_add_left (Nat.sub_le_sub_left (Nat.le_of_ble_eq_true e) _) _
theorem less_one (p : Int) {q : Int} (h : p ≤ q) : p - 1 ≤ q - 1 := Int.sub_le_sub_right h 1
theorem part_slice {tx : List Int} {p q : Int} (h1 : 1 ≤ p) (h2 : p ≤ q) (h3 : q ≤ tx.length + 1) :
    (tx.drop (p - 1).toNat).take (q - p).toNat = List.take (min (q - 1).toNat tx.length - (p - 1).toNat) (List.drop (p - 1).toNat tx) := by
  obtain ⟨X, Z, rfl, hX⟩ := cut_at (l := tx) (p := q - 1) (Int.sub_nonneg_of_le (Int.le_trans h1 h2)) (Int.le_trans (Int.sub_le_sub_right h3 1) (Int.le_of_eq (Int.add_sub_cancel _ 1)))
  obtain ⟨X, Y, rfl, hY⟩ := cut_at (l := X) (p := p - 1) (Int.sub_nonneg_of_le h1) (Int.le_trans (less_one p h2) (Int.le_of_eq hX))
  rw [len_app] at hX
  rw [part_eq (List.append_assoc X Y Z) hY hX, mid_eq (List.append_assoc X Y Z) hY (by omega)]
theorem GapHas.len {ns tx : List Int} {gs ge : Int} (h : GapHas ns gs ge tx) : (tx.length : Int) = gs + (ns.length - ge) := by
  obtain ⟨A, G, B, rfl, rfl, rfl, rfl⟩ := h.cut
  rw [len_app, len_app, len_app, ← Int.add_assoc]
  omega

theorem move_left {ns tx md rs : List Int} {gs ge p e : Int} (h : GapHas ns gs ge tx) (h0 : 0 ≤ p) (h1 : p < gs) (hm : md = List.take (min gs.toNat ns.length - p.toNat) (List.drop p.toNat ns))
    (he : e = ge - md.length) (hr : rs = ns.take e.toNat ++ md ++ ns.drop ge.toNat) : GapHas rs p e tx := by
  obtain ⟨A, G, B, rfl, rfl, rfl, rfl⟩ := h.cut
  obtain ⟨X, Y, rfl, rfl⟩ := cut_at h0 (Int.le_of_lt h1)
  rw [part_eq (List.append_assoc X Y _) rfl (len_app X Y)] at hm
  subst hm
  have he2 : e = (X ++ List.take G.length (md ++ (G ++ B))).length := by
    rw [he, len_app, List.length_append, List.length_take, List.length_append, List.length_append, Nat.min_eq_left (Nat.le_trans (Nat.le_add_right _ _) (Nat.le_add_left _ _)), Int.natCast_add]
    omega
  have e3 : X ++ md ++ (G ++ B) = X ++ List.take G.length (md ++ (G ++ B)) ++ List.drop G.length (md ++ (G ++ B)) := by
    rw [List.append_assoc X _ (List.drop _ _), List.take_append_drop, List.append_assoc]
  have e4 : (X ++ md ++ (G ++ B)).drop (((X ++ md).length : Int) + G.length).toNat = B := by
    rw [← len_app, ← List.append_assoc, Int.toNat_natCast, List.drop_left]
  rw [e4, e3, take_int he2] at hr
  refine gap_mk (A := X) (G := List.take G.length (md ++ (G ++ B))) (B := md ++ B) (by rw [hr, List.append_assoc, List.append_assoc]) rfl (by rw [he2, len_app]) (List.append_assoc _ _ _)

theorem move_right {ns tx md rs : List Int} {gs ge p e f : Int} (h : GapHas ns gs ge tx) (h1 : gs ≤ p) (h2 : p ≤ tx.length) (hf : f = ge + p - gs) (hm : md = List.take (min f.toNat ns.length - ge.toNat) (List.drop ge.toNat ns))
    (he : e = ge + md.length) (hr : rs = ns.take gs.toNat ++ md ++ ns.drop (gs + md.length).toNat) : GapHas rs p e tx := by
  obtain ⟨A, G, B, rfl, rfl, rfl, rfl⟩ := h.cut
  rw [len_app] at h2
  obtain ⟨X, Y, rfl, hX⟩ := cut_at (l := B) (p := p - A.length) (by omega) (by omega)
  rw [part_eq (X := A ++ G) (Y := X) (Z := Y) (List.append_assoc _ _ _).symm (len_app _ _).symm (by rw [len_app]; omega)] at hm
  subst hm
  have e3 : (A ++ (G ++ (md ++ Y))).drop ((A.length : Int) + md.length).toNat = (G ++ md).drop md.length ++ Y := by
    rw [show ((A.length : Int) + md.length).toNat = A.length + md.length from rfl, ← List.drop_drop, List.drop_left, ← List.append_assoc, List.drop_append_of_le_length (by rw [List.length_append]; exact Nat.le_add_left _ _)]
  rw [e3, take_int rfl] at hr
  refine gap_mk (A := A ++ md) (G := (G ++ md).drop md.length) (B := Y) hr (by rw [len_app]; omega) ?_ (List.append_assoc _ _ _).symm
  rw [he, List.length_drop, List.length_append (as := G), Nat.add_sub_cancel, len_app, Int.add_assoc, Int.add_assoc, Int.add_comm G.length]

theorem widen_gap {ns tx z rs : List Int} {gs ge e : Int} (h : GapHas ns gs ge tx) (he : e = ge + z.length) (hr : rs = ns.take ge.toNat ++ z ++ ns.drop ge.toNat) : GapHas rs gs e tx := by
  obtain ⟨A, G, B, rfl, rfl, rfl, rfl⟩ := h.cut
  rw [← List.append_assoc, take_int (len_app _ _).symm, drop_int (len_app _ _).symm] at hr
  exact gap_mk (A := A) (G := G ++ z) (B := B) (by rw [hr, List.append_assoc A, List.append_assoc A]) rfl (by rw [he, len_app, Int.add_assoc]) rfl

/-- the codes are written over the gap's start -/
theorem insert_gap {ns tx z rs : List Int} {p ge e : Int} (h : GapHas ns p ge tx) (hw : p + z.length ≤ ge) (he : e = p + z.length) (hr : rs = ns.take p.toNat ++ z ++ ns.drop e.toNat) :
    GapHas rs e ge (tx.take p.toNat ++ z ++ tx.drop p.toNat) := by
  obtain ⟨A, G, B, rfl, rfl, rfl, rfl⟩ := h.cut
  obtain ⟨X, Y, rfl, hX⟩ := cut_at (Int.natCast_nonneg z.length) (Int.le_of_add_le_add_left hw)
  rw [take_int rfl, List.append_assoc X, ← List.append_assoc A X, drop_int (by rw [he, hX, len_app])] at hr
  rw [take_int rfl, drop_int rfl]
  exact gap_mk (A := A ++ z) (G := Y) (B := B) hr (by rw [he, len_app]) (by rw [len_app, len_app, hX, Int.add_assoc]) rfl

theorem codes_low {ns tx : List Int} {gs ge a b : Int} (h : GapHas ns gs ge tx) (h0 : 0 ≤ a) (h1 : a ≤ b) (h2 : b ≤ gs) :
    List.take (min b.toNat ns.length - a.toNat) (List.drop a.toNat ns) = (tx.drop a.toNat).take (b - a).toNat := by
  obtain ⟨A, G, B, rfl, rfl, rfl, rfl⟩ := h.cut
  obtain ⟨X, Z, rfl, rfl⟩ := cut_at (Int.le_trans h0 h1) h2
  obtain ⟨X, Y, rfl, rfl⟩ := cut_at h0 h1
  rw [part_eq (X := X) (Y := Y) (by rw [List.append_assoc, List.append_assoc]) rfl (len_app _ _), mid_eq (X := X) (Y := Y) (by rw [List.append_assoc, List.append_assoc]) rfl (int_add (len_app _ _)).symm]

theorem codes_high {ns tx : List Int} {gs ge a b : Int} (h : GapHas ns gs ge tx) (h0 : gs ≤ a) (h1 : a ≤ b) (h2 : b ≤ tx.length) :
    List.take (min (b + (ge - gs)).toNat ns.length - (a + (ge - gs)).toNat) (List.drop (a + (ge - gs)).toNat ns) = (tx.drop a.toNat).take (b - a).toNat := by
  obtain ⟨A, G, B, rfl, rfl, rfl, rfl⟩ := h.cut
  rw [len_app] at h2
  obtain ⟨X, Z, rfl, hX⟩ := cut_at (l := B) (p := b - A.length) (by omega) (by omega)
  obtain ⟨X, Y, rfl, hY⟩ := cut_at (l := X) (p := a - A.length) (by omega) (by omega)
  rw [len_app] at hX
  rw [part_eq (X := A ++ G ++ X) (Y := Y) (Z := Z) (by rw [List.append_assoc, List.append_assoc, List.append_assoc]) (by rw [len_app, len_app]; omega) (by rw [len_app, len_app]; omega),
    mid_eq (X := A ++ X) (Y := Y) (Z := Z) (by rw [List.append_assoc, List.append_assoc]) (by rw [len_app]; omega) (by omega)]

theorem codes_both {ns tx : List Int} {gs ge a b : Int} (h : GapHas ns gs ge tx) (h0 : 0 ≤ a) (h1 : a < gs) (h2 : gs < b) (h3 : b ≤ tx.length) :
    List.take (min gs.toNat ns.length - a.toNat) (List.drop a.toNat ns) ++ List.take (min (b + (ge - gs)).toNat ns.length - ge.toNat) (List.drop ge.toNat ns) = (tx.drop a.toNat).take (b - a).toNat := by
  obtain ⟨A, G, B, rfl, rfl, rfl, rfl⟩ := h.cut
  rw [len_app] at h3
  obtain ⟨X, Y, rfl, rfl⟩ := cut_at h0 (Int.le_of_lt h1)
  obtain ⟨Z, W, rfl, hZ⟩ := cut_at (l := B) (p := b - (X ++ Y).length) (by omega) (by omega)
  rw [part_eq (X := X) (Y := Y) (List.append_assoc _ _ _) rfl (len_app _ _), part_eq (X := X ++ Y ++ G) (Y := Z) (Z := W) (List.append_assoc _ _ _).symm (by rw [len_app _ G]) (by rw [len_app _ G]; omega),
    mid_eq (X := X) (Y := Y ++ Z) (Z := W) (by rw [List.append_assoc, List.append_assoc]) rfl (by rw [len_app Y Z]; rw [len_app X Y] at hZ; omega)]

theorem code_low {ns tx : List Int} {gs ge a : Int} (h : GapHas ns gs ge tx) (h0 : 0 ≤ a) (h1 : a < gs) : ns.getD a.toNat 0 = tx.getD a.toNat 0 := by
  obtain ⟨A, G, B, rfl, rfl, rfl, rfl⟩ := h.cut
  obtain ⟨n, rfl⟩ := Int.eq_ofNat_of_zero_le h0
  have hn : (n : Int).toNat < A.length := Int.ofNat_lt.mp h1
  rw [List.getD_eq_getElem?_getD, List.getD_eq_getElem?_getD, List.getElem?_append_left hn, List.getElem?_append_left hn]
theorem code_high {ns tx : List Int} {gs ge a e : Int} (h : GapHas ns gs ge tx) (h0 : gs ≤ a) (he : e = a - gs + ge) : ns.getD e.toNat 0 = tx.getD a.toNat 0 := by
  obtain ⟨A, G, B, rfl, rfl, rfl, rfl⟩ := h.cut
  obtain ⟨n, hn⟩ := Int.le.dest h0
  subst hn
  have e1 : e = ((A ++ G).length + n : Nat) := by rw [he, Int.natCast_add, len_app]; omega
  subst e1
  rw [show ((A.length : Int) + n).toNat = A.length + n from rfl, Int.toNat_natCast, List.getD_eq_getElem?_getD, List.getD_eq_getElem?_getD, List.getElem?_append_right (Nat.le_add_right _ _), ← List.append_assoc, List.getElem?_append_right (Nat.le_add_right _ _), Nat.add_sub_cancel_left, Nat.add_sub_cancel_left]

theorem delete_gap {ns tx : List Int} {gs ge a b e : Int} (h : GapHas ns gs ge tx) (h0 : 0 ≤ a) (h1 : a ≤ gs) (h2 : gs ≤ b) (h3 : b ≤ tx.length) (he : e = ge + b - gs) : GapHas ns a e (tx.take a.toNat ++ tx.drop b.toNat) := by
  obtain ⟨A, G, B, rfl, rfl, rfl, rfl⟩ := h.cut
  rw [len_app] at h3
  obtain ⟨X, Y, rfl, rfl⟩ := cut_at h0 h1
  obtain ⟨Z, W, rfl, hZ⟩ := cut_at (l := B) (p := b - (X ++ Y).length) (by omega) (by omega)
  rw [← List.append_assoc (X ++ Y) Z W, drop_int (i := b) (by rw [len_app _ Z]; omega), List.append_assoc X Y Z, List.append_assoc X _ W, take_int rfl]
  exact gap_mk (A := X) (G := Y ++ (G ++ Z)) (B := W) (by simp only [List.append_assoc]) rfl (by rw [len_app, len_app]; rw [len_app] at he hZ; omega) rfl
end PartGapPlain

section PartGap
/-- the dict of a GapText -/
def GapEs (es : List DictEntry) (rm : Int) (ce : Addr) (gs ge : Int) : Prop :=
  ∃ h1 t1 u1 h2 t2 h3 t3 u3 h4 t4 u4, es = [⟨h1, .str (Str.ofString "room") t1, .int rm u1⟩, ⟨h2, .str (Str.ofString "cells") t2, .ref ce⟩, ⟨h3, .str (Str.ofString "gap_start") t3, .int gs u3⟩, ⟨h4, .str (Str.ofString "gap_end") t4, .int ge u4⟩]

section
variable {w : World} {dp un : Nat} {gd : Option (List Code)} {cn : Str} {cs : Scope} {L a : Addr} {ccd : Value} {cl : List (Str × Addr)} {outer : List Env} {A₀ : Around} {base h₀ : Heap} {m mg mb : Str → Option Value} {news : List (Addr × Obj)} {s : Shared} {loose : List Str} {mean : ExcName → Option Value} {Q E : Value → Shared → Prop}


set_option maxHeartbeats 8000000 in
theorem gap_move {gp gd' ce : Addr} {es : List DictEntry} {c : Nat} {rm gs ge p : Int} {tp : Tok} {ys : List Value} {ns tx : List Int} (hv : GapEs es rm ce gs ge)
    (B : Below A₀ base outer h₀) (F : Fr h₀ L s.heap m) (X : (hd.heap_39 w.params).In h₀) (N : News h₀ L s.heap news) (T : Top hd.view_39 loose mean mg mb h₀) (hk : cs.kind = .function) (hdp : dp + 4 < recursionLimit) (hun : un + 100 < cLine)
    (hi : IntsAre ys ns) (hne1 : @Ne Nat gd' ce) (hne2 : @Ne Nat gp gd') (hne3 : @Ne Nat gp ce) (hlen : ns.length ≤ 1000) (h0 : 0 ≤ p) (hg : GapHas ns gs ge tx) (hp : p ≤ tx.length)
    (ks : ∀ q ∈ [(gd', dictOf es 4), (ce, listOf ys.toArray c)], q ∈ news) (ks' : ∀ q ∈ [(gp, instObj 267 gd')], q ∈ news)
    (ret : ∀ h' tk' es' ge' ws rs c', GapEs es' rm ce p ge' → IntsAre ws rs → rs.length = ns.length → GapHas rs p ge' tx → Fr h₀ L h' m →
      (∀ news', (∀ q ∈ news', q ∈ [(gd', dictOf es' 4), (ce, listOf (List.toArray ws) c')] ∨ (q ∈ news ∧ ∀ r ∈ [(gd', dictOf es 4), (ce, listOf ys.toArray c)], q.1 ≠ r.1)) → News h₀ L h' news') → Q .none { s with heap := h', toks := tk' }) :
    wpAny (model PySem.Challenge.rw_oj0027_01.row.prog w) (ktrTop dp un gd cn cs L a ccd cl outer) (call (.ref 222) [.ref gp, .int p tp]) Q E s := by
  refine wpAny_call ?_
  have kss : ∀ q ∈ [(gd', dictOf es 4), (ce, listOf ys.toArray c)] ++ [(gp, instObj 267 gd')], q ∈ news := fun q hq => (List.mem_append.mp hq).elim (ks q) (ks' q)
  dsimp only [List.cons_append, List.nil_append] at kss
  walk_at "MINE enter"
  clear B X F T
  obtain ⟨h1, t1, u1, h2, t2, h3, t3, u3, h4, t4, u4, rfl⟩ := hv
  have hlen' := hg.len
  have hg' := hg
  obtain ⟨g1, g2, g3, g4⟩ := hg'
  clear g4
  k_steps
  all_goals (try dsimp only)
  · refine leaveK_ (by k_asm) (by k_asm) ?_
    intro kF kN hkept
    rename_i ws rs c9 hi9 hr9 hl9 y1 y2 y3 y4 y5
    refine ret _ _ _ _ ws rs _ ⟨h1, t1, _, h2, t2, h3, t3, _, h4, t4, _, rfl⟩ hi9 ?_ (move_left hg h0 (by assumption) rfl rfl hr9) kF (fun news' hn => news_done N ks ks' (mods' := [(gd', dictOf _ 4), (ce, listOf (List.toArray _) _)]) (news_sub kN (by lcg_sub)) hkept hn)
    walk_at "MINE om"
  · refine leaveK_ (by k_asm) (by k_asm) ?_
    intro kF kN hkept
    rename_i ws rs c9 hi9 hr9 hl9 y1 y2 y3 y4 y5
    refine ret _ _ _ _ ws rs _ ⟨h1, t1, _, h2, t2, h3, t3, _, h4, t4, _, rfl⟩ hi9 ?_ (move_right hg (by walk_at "MINE om") hp rfl rfl rfl hr9) kF (fun news' hn => news_done N ks ks' (mods' := [(gd', dictOf _ 4), (ce, listOf (List.toArray _) _)]) (news_sub kN (by lcg_sub)) hkept hn)
    walk_at "MINE om"
end
end PartGap

section PartGap2
section
variable {w : World} {dp un : Nat} {gd : Option (List Code)} {cn : Str} {cs : Scope} {L a : Addr} {ccd : Value} {cl : List (Str × Addr)} {outer : List Env} {A₀ : Around} {base h₀ : Heap} {m mg mb : Str → Option Value} {news : List (Addr × Obj)} {s : Shared} {loose : List Str} {mean : ExcName → Option Value} {Q E : Value → Shared → Prop}



set_option maxHeartbeats 8000000 in
theorem gap_widen {gp gd' ce : Addr} {es : List DictEntry} {c : Nat} {rm gs ge p : Int} {tp : Tok} {ys : List Value} {ns tx : List Int} (hv : GapEs es rm ce gs ge)
    (B : Below A₀ base outer h₀) (F : Fr h₀ L s.heap m) (X : (hd.heap_39 w.params).In h₀) (N : News h₀ L s.heap news) (T : Top hd.view_39 loose mean mg mb h₀) (hk : cs.kind = .function) (hdp : dp + 4 < recursionLimit) (hun : un + 100 < cLine)
    (hi : IntsAre ys ns) (hne1 : @Ne Nat gd' ce) (hne2 : @Ne Nat gp gd') (hne3 : @Ne Nat gp ce) (hlen : ns.length ≤ 1000) (h0 : 0 ≤ p) (h1' : p ≤ 1000) (hrm : 0 ≤ rm) (hrm1 : rm ≤ 1000) (hg : GapHas ns gs ge tx)
    (ks : ∀ q ∈ [(gd', dictOf es 4), (ce, listOf ys.toArray c)], q ∈ news) (ks' : ∀ q ∈ [(gp, instObj 267 gd')], q ∈ news)
    (ret : ∀ h' tk' es' ge' ws rs c', GapEs es' rm ce gs ge' → IntsAre ws rs → (rs.length : Int) ≤ ns.length + p + rm → GapHas rs gs ge' tx → gs + p ≤ ge' → Fr h₀ L h' m →
      (∀ news', (∀ q ∈ news', q ∈ [(gd', dictOf es' 4), (ce, listOf (List.toArray ws) c')] ∨ (q ∈ news ∧ ∀ r ∈ [(gd', dictOf es 4), (ce, listOf ys.toArray c)], q.1 ≠ r.1)) → News h₀ L h' news') → Q .none { s with heap := h', toks := tk' }) :
    wpAny (model PySem.Challenge.rw_oj0027_01.row.prog w) (ktrTop dp un gd cn cs L a ccd cl outer) (call (.ref 229) [.ref gp, .int p tp]) Q E s := by
  refine wpAny_call ?_
  have kss : ∀ q ∈ [(gd', dictOf es 4), (ce, listOf ys.toArray c)] ++ [(gp, instObj 267 gd')], q ∈ news := fun q hq => (List.mem_append.mp hq).elim (ks q) (ks' q)
  dsimp only [List.cons_append, List.nil_append] at kss
  walk_at "MINE enter"
  clear B X F T
  obtain ⟨h1, t1, u1, h2, t2, h3, t3, u3, h4, t4, u4, rfl⟩ := hv
  have hlen' := hg.len
  have hg' := hg
  obtain ⟨g1, g2, g3, g4⟩ := hg'
  clear g4
  k_steps
  all_goals (try dsimp only)
  all_goals (
    refine leaveK_ (by k_asm) (by k_asm) ?_
    intro kF kN hkept)
  · rename IntsAre _ _ => hi9
    rename (_ : List Int) = _ ++ _ ++ _ => hr9
    rename ((List.length _ : Nat) : Int) = _ => hl9
    refine ret _ _ _ _ _ _ _ ⟨h1, t1, _, h2, t2, h3, t3, _, h4, t4, _, rfl⟩ hi9 ?_ (widen_gap hg ?_ hr9) ?_ kF (fun news' hn => news_done N ks ks' (mods' := [(gd', dictOf _ 4), (ce, listOf (List.toArray _) _)]) (news_sub kN (by lcg_sub)) hkept hn)
    · walk_at "MINE om"
    · walk_at "MINE om"
    · walk_at "MINE om"
  · refine ret _ _ _ _ _ _ _ ⟨h1, t1, _, h2, t2, h3, t3, _, h4, t4, _, rfl⟩ hi ?_ hg ?_ kF (fun news' hn => news_done N ks ks' (mods' := [(gd', dictOf _ 4), (ce, listOf (List.toArray _) _)]) (news_sub kN (by lcg_sub)) hkept hn)
    · walk_at "MINE om"
    · walk_at "MINE om"
end
end PartGap2

section PartGap3
section
variable {w : World} {dp un : Nat} {gd : Option (List Code)} {cn : Str} {cs : Scope} {L a : Addr} {ccd : Value} {cl : List (Str × Addr)} {outer : List Env} {A₀ : Around} {base h₀ : Heap} {m mg mb : Str → Option Value} {news : List (Addr × Obj)} {s : Shared} {loose : List Str} {mean : ExcName → Option Value} {Q E : Value → Shared → Prop}




set_option maxHeartbeats 8000000 in
theorem gap_insert {gp gd' ce cd : Addr} {es : List DictEntry} {c c9 : Nat} {rm gs ge p : Int} {tp : Tok} {ys zs : List Value} {ns tx ms : List Int} (hv : GapEs es rm ce gs ge)
    (B : Below A₀ base outer h₀) (F : Fr h₀ L s.heap m) (X : (hd.heap_39 w.params).In h₀) (N : News h₀ L s.heap news) (T : Top hd.view_39 loose mean mg mb h₀) (hk : cs.kind = .function) (hdp : dp + 6 < recursionLimit) (hun : un + 120 < cLine)
    (hi : IntsAre ys ns) (hi2 : IntsAre zs ms) (hne1 : @Ne Nat gd' ce) (hne2 : @Ne Nat gp gd') (hne3 : @Ne Nat gp ce) (hne4 : @Ne Nat cd gd') (hne5 : @Ne Nat cd ce) (hlen : ns.length ≤ 100) (hms : ms.length ≤ 100) (h0 : 0 ≤ p) (hrm : 0 ≤ rm) (hrm1 : rm ≤ 100) (hg : GapHas ns gs ge tx) (hp : p ≤ tx.length)
    (ks : ∀ q ∈ [(gd', dictOf es 4), (ce, listOf ys.toArray c)], q ∈ news) (ks' : ∀ q ∈ [(gp, instObj 267 gd'), (cd, listOf zs.toArray c9)], q ∈ news)
    (ret : ∀ h' tk' es' gs' ge' ws rs c', GapEs es' rm ce gs' ge' → IntsAre ws rs → (rs.length : Int) ≤ ns.length + ms.length + rm → GapHas rs gs' ge' (tx.take p.toNat ++ ms ++ tx.drop p.toNat) → Fr h₀ L h' m →
      (∀ news', (∀ q ∈ news', q ∈ [(gd', dictOf es' 4), (ce, listOf (List.toArray ws) c')] ∨ (q ∈ news ∧ ∀ r ∈ [(gd', dictOf es 4), (ce, listOf ys.toArray c)], q.1 ≠ r.1)) → News h₀ L h' news') → Q .none { s with heap := h', toks := tk' }) :
    wpAny (model PySem.Challenge.rw_oj0027_01.row.prog w) (ktrTop dp un gd cn cs L a ccd cl outer) (call (.ref 236) [.ref gp, .int p tp, .ref cd]) Q E s := by
  refine wpAny_call ?_
  have kss : ∀ q ∈ [(gd', dictOf es 4), (ce, listOf ys.toArray c)] ++ [(gp, instObj 267 gd'), (cd, listOf zs.toArray c9)], q ∈ news := fun q hq => (List.mem_append.mp hq).elim (ks q) (ks' q)
  dsimp only [List.cons_append, List.nil_append] at kss
  walk_at "MINE enter"
  clear B X F T
  obtain ⟨h1, t1, u1, h2, t2, h3, t3, u3, h4, t4, u4, rfl⟩ := hv
  have hlen' := hg.len
  (repeat' (first
    | (k_here; k_dflt ((with_reducible show wpAny _ _ (call (Value.ref _) _) _ _ _); first
      | ((with_reducible show wpAny _ _ (call (Value.ref 229) _) _ _ _); apply gap_widen; (case hk => first | exact rfl | assumption); (case B => k_asm); (case F => k_asm); (case X => k_asm); (case N => k_asm); (case T => k_asm); (case hdp => ktr_room); (case hun => units_room); (case ks' => lcg_sub); (case ks => lcg_sub); (case hv => first | assumption | exact ⟨_, _, _, _, _, _, _, _, _, _, _, rfl⟩); (case hi => assumption); (case hg => assumption); (case hne1 => k_ne); (case hne2 => k_ne); (case hne3 => k_ne); (case hlen => walk_at "MINE om"); (case h0 => walk_at "MINE om"); (case h1' => walk_at "MINE om"); (case hrm => walk_at "MINE om"); (case hrm1 => walk_at "MINE om"); k_whole; intro h₉ tk₉ es₉ ge₉ ws₉ rs₉ c₉ hes₉ hi₉ hl₉ hg₉ hw₉ F₉ hN₉; (have N₉ := hN₉ _ (upd2_done ⟨_, by k_updF, fun _ => by k_updF⟩ _ _)); clear hN₉; (have hb1₉ := GapHas.len hg₉); (have hb2₉ := hg₉.1); (have hb3₉ := hg₉.2.1); (have hb4₉ := hg₉.2.2.1); (try dsimp only at N₉); (obtain ⟨q1₉, q2₉, q3₉, q4₉, q5₉, q6₉, q7₉, q8₉, q9₉, q10₉, q11₉, hq₉⟩ := hes₉); subst hq₉)
      | ((with_reducible show wpAny _ _ (call (Value.ref 222) _) _ _ _); apply gap_move; (case hk => first | exact rfl | assumption); (case B => k_asm); (case F => k_asm); (case X => k_asm); (case N => k_asm); (case T => k_asm); (case hdp => ktr_room); (case hun => units_room); (case ks' => lcg_sub); (case ks => lcg_sub); (case hv => first | assumption | exact ⟨_, _, _, _, _, _, _, _, _, _, _, rfl⟩); (case hi => assumption); (case hg => assumption); (case hne1 => k_ne); (case hne2 => k_ne); (case hne3 => k_ne); (case hlen => walk_at "MINE om"); (case h0 => walk_at "MINE om"); (case hp => walk_at "MINE om"); k_whole; intro h₉ tk₉ es₉ ge₉ ws₉ rs₉ c₉ hes₉ hi₉ hl₉ hg₉ F₉ hN₉; (have N₉ := hN₉ _ (upd2_done ⟨_, by k_updF, fun _ => by k_updF⟩ _ _)); clear hN₉; (have hb1₉ := GapHas.len hg₉); (have hb2₉ := hg₉.1); (have hb3₉ := hg₉.2.1); (have hb4₉ := hg₉.2.2.1); (try dsimp only at N₉); (obtain ⟨q1₉, q2₉, q3₉, q4₉, q5₉, q6₉, q7₉, q8₉, q9₉, q10₉, q11₉, hq₉⟩ := hes₉); subst hq₉)
      ); (try dsimp only); (try k_fold))
    | (k_unfold; (try dsimp only)) | (k_end; wrow_close) | walk1 | (dsimp only; walk1) | (leave1; walk_say "STEP leave1"; try dsimp only) | fail "no step"))
  all_goals (try dsimp only)
  refine leaveK_ (by k_asm) (by k_asm) ?_
  intro kF kN hkept
  rename IntsAre _ _ => hi9
  rename (_ : List Int) = _ ++ _ ++ _ => hr9
  rename ((List.length _ : Nat) : Int) = _ + _ => hl9
  rename GapHas _ _ _ _ => hg9
  refine ret _ _ _ _ _ _ _ _ ⟨_, _, _, _, _, _, _, _, _, _, _, rfl⟩ hi9 ?_ (insert_gap hg9 ?_ rfl hr9) kF (fun news' hn => news_done N ks ks' (mods' := [(gd', dictOf _ 4), (ce, listOf (List.toArray _) _)]) (news_sub kN (by lcg_sub)) hkept hn)
  · walk_at "MINE om"
  · walk_at "MINE om"
end
end PartGap3

section PartGap4
section
variable {w : World} {dp un : Nat} {gd : Option (List Code)} {cn : Str} {cs : Scope} {L a : Addr} {ccd : Value} {cl : List (Str × Addr)} {outer : List Env} {A₀ : Around} {base h₀ : Heap} {m mg mb : Str → Option Value} {news : List (Addr × Obj)} {s : Shared} {loose : List Str} {mean : ExcName → Option Value} {Q E : Value → Shared → Prop}




set_option maxHeartbeats 8000000 in
theorem gap_size {gp gd' ce : Addr} {es : List DictEntry} {c : Nat} {rm gs ge : Int} {ys : List Value} {ns tx : List Int} (hv : GapEs es rm ce gs ge)
    (B : Below A₀ base outer h₀) (F : Fr h₀ L s.heap m) (X : (hd.heap_39 w.params).In h₀) (N : News h₀ L s.heap news) (T : Top hd.view_39 loose mean mg mb h₀) (hk : cs.kind = .function) (hdp : dp + 4 < recursionLimit) (hun : un + 100 < cLine)
    (hi : IntsAre ys ns) (hlen : ns.length ≤ 1000) (hg : GapHas ns gs ge tx)
    (ks : ∀ q ∈ [(gp, instObj 267 gd'), (gd', dictOf es 4), (ce, listOf ys.toArray c)], q ∈ news)
    (ret : ∀ t h' tk', Fr h₀ L h' m → News h₀ L h' news → Q (.int tx.length t) { s with heap := h', toks := tk' }) :
    wpAny (model PySem.Challenge.rw_oj0027_01.row.prog w) (ktrTop dp un gd cn cs L a ccd cl outer) (call (.ref 201) [.ref gp]) Q E s := by
  refine wpAny_call ?_
  walk_at "MINE enter"
  clear B X F T
  obtain ⟨h1, t1, u1, h2, t2, h3, t3, u3, h4, t4, u4, rfl⟩ := hv
  have hlen' := hg.len
  k_steps
  all_goals (try dsimp only)
  refine leaveK_ (by k_asm) (by k_asm) ?_
  intro kF kN hkept
  refine ret_int (ret _ _ _ kF (news_same N ks kN hkept)) ?_
  walk_at "MINE om"

set_option maxHeartbeats 8000000 in
theorem gap_code {gp gd' ce : Addr} {es : List DictEntry} {c : Nat} {rm gs ge p : Int} {tp : Tok} {ys : List Value} {ns tx : List Int} (hv : GapEs es rm ce gs ge)
    (B : Below A₀ base outer h₀) (F : Fr h₀ L s.heap m) (X : (hd.heap_39 w.params).In h₀) (N : News h₀ L s.heap news) (T : Top hd.view_39 loose mean mg mb h₀) (hk : cs.kind = .function) (hdp : dp + 4 < recursionLimit) (hun : un + 100 < cLine)
    (hi : IntsAre ys ns) (hlen : ns.length ≤ 1000) (hg : GapHas ns gs ge tx)
    (h0 : 0 ≤ p) (hp : p < tx.length)
    (ks : ∀ q ∈ [(gp, instObj 267 gd'), (gd', dictOf es 4), (ce, listOf ys.toArray c)], q ∈ news)
    (ret : ∀ t h' tk', Fr h₀ L h' m → News h₀ L h' news → Q (.int (tx.getD p.toNat 0) t) { s with heap := h', toks := tk' }) :
    wpAny (model PySem.Challenge.rw_oj0027_01.row.prog w) (ktrTop dp un gd cn cs L a ccd cl outer) (call (.ref 208) [.ref gp, .int p tp]) Q E s := by
  refine wpAny_call ?_
  walk_at "MINE enter"
  clear B X F T
  obtain ⟨h1, t1, u1, h2, t2, h3, t3, u3, h4, t4, u4, rfl⟩ := hv
  have hlen' := hg.len
  have hg' := hg
  obtain ⟨g1, g2, g3, g4⟩ := hg'
  clear g4
  k_steps
  all_goals (try dsimp only)
  all_goals (
    refine leaveK_ (by k_asm) (by k_asm) ?_
    intro kF kN hkept
    refine ret_int (ret _ _ _ kF (news_same N ks kN hkept)) ?_)
  all_goals first | exact code_low hg h0 (by assumption) | exact code_high hg (by walk_at "MINE om") rfl

set_option maxHeartbeats 8000000 in
theorem gap_codes {gp gd' ce : Addr} {es : List DictEntry} {c : Nat} {rm gs ge p q : Int} {tp tq : Tok} {ys : List Value} {ns tx : List Int} (hv : GapEs es rm ce gs ge)
    (B : Below A₀ base outer h₀) (F : Fr h₀ L s.heap m) (X : (hd.heap_39 w.params).In h₀) (N : News h₀ L s.heap news) (T : Top hd.view_39 loose mean mg mb h₀) (hk : cs.kind = .function) (hdp : dp + 4 < recursionLimit) (hun : un + 100 < cLine)
    (hi : IntsAre ys ns) (hlen : ns.length ≤ 1000) (hg : GapHas ns gs ge tx)
    (h0 : 0 ≤ p) (hpq : p ≤ q) (hq : q ≤ tx.length)
    (ks : ∀ q ∈ [(gp, instObj 267 gd'), (gd', dictOf es 4), (ce, listOf ys.toArray c)], q ∈ news)
    (ret : ∀ D ws c' h' tk', IntsAre ws ((tx.drop p.toNat).take (q - p).toNat) → (∀ r ∈ news, Apart r.1 D) → Fr h₀ L h' m → News h₀ L h' ((D, listOf (List.toArray ws) c') :: news) → Q (.ref D) { s with heap := h', toks := tk' }) :
    wpAny (model PySem.Challenge.rw_oj0027_01.row.prog w) (ktrTop dp un gd cn cs L a ccd cl outer) (call (.ref 215) [.ref gp, .int p tp, .int q tq]) Q E s := by
  refine wpAny_call ?_
  walk_at "MINE enter2"
  clear B X F T
  obtain ⟨h1, t1, u1, h2, t2, h3, t3, u3, h4, t4, u4, rfl⟩ := hv
  have hlen' := hg.len
  have hg' := hg
  obtain ⟨g1, g2, g3, g4⟩ := hg'
  clear g4
  rename (∀ q ∈ news, _) => hgr9
  k_steps
  all_goals (try dsimp only)
  · rename News _ _ _ _ => N9
    rename IntsAre _ _ => hi9
    refine leaveK_ (by k_asm) N9 ?_
    intro kF kN hkept
    refine ret _ _ _ _ _ (codes_low hg h0 hpq (by assumption) ▸ hi9) (apart_all N hgr9 N9 (by k_mem) (by k_all)) kF (news_cons_same N ks kN (by k_mem) (by lcg_sub) hkept)
  · rename News _ _ _ _ => N9
    rename IntsAre _ _ => hi9
    refine leaveK_ (by k_asm) N9 ?_
    intro kF kN hkept
    refine ret _ _ _ _ _ (codes_high hg (by assumption) hpq hq ▸ hi9) (apart_all N hgr9 N9 (by k_mem) (by k_all)) kF (news_cons_same N ks kN (by k_mem) (by lcg_sub) hkept)
  · rename News _ _ _ _ => N9
    rename IntsAre _ _ => hi9
    refine leaveK_ (by k_asm) N9 ?_
    intro kF kN hkept
    refine ret _ _ _ _ _ (codes_both hg h0 (by walk_at "MINE om") (by walk_at "MINE om") hq ▸ hi9) (apart_all N hgr9 N9 (by k_mem) (by k_all)) kF (news_cons_same N ks kN (by k_mem) (by lcg_sub) hkept)
end
end PartGap4

section PartGap5
section
variable {w : World} {dp un : Nat} {gd : Option (List Code)} {cn : Str} {cs : Scope} {L a : Addr} {ccd : Value} {cl : List (Str × Addr)} {outer : List Env} {A₀ : Around} {base h₀ : Heap} {m mg mb : Str → Option Value} {news : List (Addr × Obj)} {s : Shared} {loose : List Str} {mean : ExcName → Option Value} {Q E : Value → Shared → Prop}





set_option maxHeartbeats 8000000 in
theorem gap_delete {gp gd' ce : Addr} {es : List DictEntry} {c : Nat} {rm gs ge p q : Int} {tp tq : Tok} {ys : List Value} {ns tx : List Int} (hv : GapEs es rm ce gs ge)
    (B : Below A₀ base outer h₀) (F : Fr h₀ L s.heap m) (X : (hd.heap_39 w.params).In h₀) (N : News h₀ L s.heap news) (T : Top hd.view_39 loose mean mg mb h₀) (hk : cs.kind = .function) (hdp : dp + 6 < recursionLimit) (hun : un + 120 < cLine)
    (hi : IntsAre ys ns) (hne1 : @Ne Nat gd' ce) (hne2 : @Ne Nat gp gd') (hne3 : @Ne Nat gp ce) (hlen : ns.length ≤ 1000) (h0 : 0 ≤ p) (hpq : p ≤ q) (hg : GapHas ns gs ge tx) (hq : q ≤ tx.length)
    (ks : ∀ q ∈ [(gd', dictOf es 4), (ce, listOf ys.toArray c)], q ∈ news) (ks' : ∀ q ∈ [(gp, instObj 267 gd')], q ∈ news)
    (ret : ∀ v h' tk' es' gs' ge' ws rs c', GapEs es' rm ce gs' ge' → IntsAre ws rs → rs.length = ns.length → GapHas rs gs' ge' (tx.take p.toNat ++ tx.drop q.toNat) → Fr h₀ L h' m →
      (∀ news', (∀ q ∈ news', q ∈ [(gd', dictOf es' 4), (ce, listOf (List.toArray ws) c')] ∨ (q ∈ news ∧ ∀ r ∈ [(gd', dictOf es 4), (ce, listOf ys.toArray c)], q.1 ≠ r.1)) → News h₀ L h' news') → Q v { s with heap := h', toks := tk' }) :
    wpAny (model PySem.Challenge.rw_oj0027_01.row.prog w) (ktrTop dp un gd cn cs L a ccd cl outer) (call (.ref 243) [.ref gp, .int p tp, .int q tq]) Q E s := by
  refine wpAny_call ?_
  have kss : ∀ q ∈ [(gd', dictOf es 4), (ce, listOf ys.toArray c)] ++ [(gp, instObj 267 gd')], q ∈ news := fun q hq => (List.mem_append.mp hq).elim (ks q) (ks' q)
  dsimp only [List.cons_append, List.nil_append] at kss
  walk_at "MINE enter"
  clear B X F T
  obtain ⟨h1, t1, u1, h2, t2, h3, t3, u3, h4, t4, u4, rfl⟩ := hv
  have hlen' := hg.len
  (repeat' (first
    | (k_here; k_dflt ((with_reducible show wpAny _ _ (call (Value.ref _) _) _ _ _); first
      | ((with_reducible show wpAny _ _ (call (Value.ref 229) _) _ _ _); apply gap_widen; (case hk => first | exact rfl | assumption); (case B => k_asm); (case F => k_asm); (case X => k_asm); (case N => k_asm); (case T => k_asm); (case hdp => ktr_room); (case hun => units_room); (case ks' => lcg_sub); (case ks => lcg_sub); (case hv => first | assumption | exact ⟨_, _, _, _, _, _, _, _, _, _, _, rfl⟩); (case hi => assumption); (case hg => assumption); (case hne1 => k_ne); (case hne2 => k_ne); (case hne3 => k_ne); (case hlen => walk_at "MINE om"); (case h0 => walk_at "MINE om"); (case h1' => walk_at "MINE om"); (case hrm => walk_at "MINE om"); (case hrm1 => walk_at "MINE om"); k_whole; intro h₉ tk₉ es₉ ge₉ ws₉ rs₉ c₉ hes₉ hi₉ hl₉ hg₉ hw₉ F₉ hN₉; (have N₉ := hN₉ _ (upd2_done ⟨_, by k_updF, fun _ => by k_updF⟩ _ _)); clear hN₉; (have hb1₉ := GapHas.len hg₉); (have hb2₉ := hg₉.1); (have hb3₉ := hg₉.2.1); (have hb4₉ := hg₉.2.2.1); (try dsimp only at N₉); (obtain ⟨q1₉, q2₉, q3₉, q4₉, q5₉, q6₉, q7₉, q8₉, q9₉, q10₉, q11₉, hq₉⟩ := hes₉); subst hq₉)
      | ((with_reducible show wpAny _ _ (call (Value.ref 222) _) _ _ _); apply gap_move; (case hk => first | exact rfl | assumption); (case B => k_asm); (case F => k_asm); (case X => k_asm); (case N => k_asm); (case T => k_asm); (case hdp => ktr_room); (case hun => units_room); (case ks' => lcg_sub); (case ks => lcg_sub); (case hv => first | assumption | exact ⟨_, _, _, _, _, _, _, _, _, _, _, rfl⟩); (case hi => assumption); (case hg => assumption); (case hne1 => k_ne); (case hne2 => k_ne); (case hne3 => k_ne); (case hlen => walk_at "MINE om"); (case h0 => walk_at "MINE om"); (case hp => walk_at "MINE om"); k_whole; intro h₉ tk₉ es₉ ge₉ ws₉ rs₉ c₉ hes₉ hi₉ hl₉ hg₉ F₉ hN₉; (have N₉ := hN₉ _ (upd2_done ⟨_, by k_updF, fun _ => by k_updF⟩ _ _)); clear hN₉; (have hb1₉ := GapHas.len hg₉); (have hb2₉ := hg₉.1); (have hb3₉ := hg₉.2.1); (have hb4₉ := hg₉.2.2.1); (try dsimp only at N₉); (obtain ⟨q1₉, q2₉, q3₉, q4₉, q5₉, q6₉, q7₉, q8₉, q9₉, q10₉, q11₉, hq₉⟩ := hes₉); subst hq₉)
      | ((with_reducible show wpAny _ _ (call (Value.ref 215) _) _ _ _); apply gap_codes; (case hk => first | exact rfl | assumption); (case B => k_asm); (case F => k_asm); (case X => k_asm); (case N => k_asm); (case T => k_asm); (case hdp => ktr_room); (case hun => units_room); (case ks => lcg_sub); (case hv => first | assumption | exact ⟨_, _, _, _, _, _, _, _, _, _, _, rfl⟩); (case hi => assumption); (case hg => assumption); (case hlen => walk_at "MINE om"); (case h0 => walk_at "MINE om"); (case hpq => walk_at "MINE om"); (case hq => walk_at "MINE om"); k_whole; intro D₉ ws₉ c₉ h₉ tk₉ hi₉ hap₉ F₉ hN₉; clear hi₉ hap₉; (have N₉ := fun q hq => hN₉ q (List.mem_cons_of_mem _ hq)); clear hN₉; change News _ _ _ _ at N₉)
      ); (try dsimp only); (try k_fold))
    | (k_unfold; (try dsimp only)) | (k_end; wrow_close) | walk1 | (dsimp only; walk1) | (leave1; walk_say "STEP leave1"; try dsimp only) | fail "no step"))
  all_goals (try dsimp only)
  all_goals (
    rename GapHas _ _ _ _ => hg9
    rename IntsAre _ _ => hi9
    refine leaveK_ (by k_asm) (by k_asm) ?_
    intro kF kN hkept
    refine ret _ _ _ _ _ _ _ _ _ ⟨_, _, _, _, _, _, _, _, _, _, _, rfl⟩ hi9 ?_ (delete_gap hg9 h0 (by walk_at "MINE om") (by walk_at "MINE om") hq rfl) kF (fun news' hn => news_done N ks ks' (mods' := [(gd', dictOf _ 4), (ce, listOf (List.toArray _) _)]) (news_sub kN (by lcg_sub)) hkept hn)
    first | rfl | assumption)
end
end PartGap5

section PartBuf1
/-- the dict of a Buffer that stands alone: no undo, no properties, no listeners -/
inductive BufEs (gp mk ls : Addr) (pt bv zv : Int) : List DictEntry → Prop
  | mk (a0 a1 a2 a3 a4 a5 a6 a7 a8 a9 a10 a11 a12 a13 a14 a15 a16 a17 a18 a19 : Int) (b0 b1 b2 b3 b4 b5 b6 b7 b8 b9 b10 b11 b12 b13 b14 b15 b16 b17 b18 b19 : Tok) (v0 v1 v4 v5 : Value) (x3 : Int) (u0 u1 u2 u3 : Tok) : BufEs gp mk ls pt bv zv [⟨a0, .str (Str.ofString "number") b0, v0⟩, ⟨a1, .str (Str.ofString "name") b1, v1⟩, ⟨a2, .str (Str.ofString "text") b2, .ref gp⟩, ⟨a3, .str (Str.ofString "markers") b3, .ref mk⟩, ⟨a4, .str (Str.ofString "point") b4, .int pt u0⟩, ⟨a5, .str (Str.ofString "begv") b5, .int bv u1⟩, ⟨a6, .str (Str.ofString "zv") b6, .int zv u2⟩, ⟨a7, .str (Str.ofString "mark") b7, .none⟩, ⟨a8, .str (Str.ofString "is_live") b8, .bool true⟩, ⟨a9, .str (Str.ofString "is_read_only") b9, .bool false⟩, ⟨a10, .str (Str.ofString "ticks") b10, .int x3 u3⟩, ⟨a11, .str (Str.ofString "codes_ticks") b11, v4⟩, ⟨a12, .str (Str.ofString "saved_ticks") b12, v5⟩, ⟨a13, .str (Str.ofString "listeners") b13, .ref ls⟩, ⟨a14, .str (Str.ofString "undo") b14, .none⟩, ⟨a15, .str (Str.ofString "props") b15, .none⟩, ⟨a16, .str (Str.ofString "overlays") b16, .none⟩, ⟨a17, .str (Str.ofString "locals") b17, .none⟩, ⟨a18, .str (Str.ofString "syntax") b18, .none⟩, ⟨a19, .str (Str.ofString "file") b19, .none⟩]

section
variable {w : World} {dp un : Nat} {gd : Option (List Code)} {cn : Str} {cs : Scope} {L a : Addr} {ccd : Value} {cl : List (Str × Addr)} {outer : List Env} {A₀ : Around} {base h₀ : Heap} {m mg mb : Str → Option Value} {news : List (Addr × Obj)} {s : Shared} {loose : List Str} {mean : ExcName → Option Value} {Q E : Value → Shared → Prop}

set_option maxHeartbeats 8000000 in
theorem need_writable {bf bd gp mk ls : Addr} {pt bv zv : Int} {es : List DictEntry} 
    (B : Below A₀ base outer h₀) (F : Fr h₀ L s.heap m) (X : (hd.heap_39 w.params).In h₀) (N : News h₀ L s.heap news) (T : Top hd.view_39 loose mean mg mb h₀) (hk : cs.kind = .function) (hdp : dp + 4 < recursionLimit) (hun : un + 100 < cLine)
    (hv : BufEs gp mk ls pt bv zv es)
    (ks : ∀ q ∈ [(bf, instObj 478 bd), (bd, dictOf es 20)], q ∈ news)
    (ret : ∀ h' tk', Fr h₀ L h' m → News h₀ L h' news → Q .none { s with heap := h', toks := tk' }) :
    wpAny (model PySem.Challenge.rw_oj0027_01.row.prog w) (ktrTop dp un gd cn cs L a ccd cl outer) (call (.ref 507) [.ref bf]) Q E s := by
  refine wpAny_call ?_
  walk_at "MINE enter"
  clear B X F T
  cases hv
  k_steps
  all_goals (try dsimp only)
  all_goals (
    refine leaveK_ (by k_asm) (by k_asm) ?_
    intro kF kN hkept
    exact ret _ _ kF (news_same N ks (news_sub kN (by lcg_sub)) hkept))

set_option maxHeartbeats 8000000 in
theorem tell_ahead {bf bd gp mk ls : Addr} {pt bv zv : Int} {es : List DictEntry} {c : Nat} {i j : Int} {ti tj : Tok}
    (B : Below A₀ base outer h₀) (F : Fr h₀ L s.heap m) (X : (hd.heap_39 w.params).In h₀) (N : News h₀ L s.heap news) (T : Top hd.view_39 loose mean mg mb h₀) (hk : cs.kind = .function) (hdp : dp + 4 < recursionLimit) (hun : un + 100 < cLine)
    (hv : BufEs gp mk ls pt bv zv es)
    (ks : ∀ q ∈ [(bf, instObj 478 bd), (bd, dictOf es 20), (ls, listOf #[] c)], q ∈ news)
    (ret : ∀ h' tk', Fr h₀ L h' m → News h₀ L h' news → Q .none { s with heap := h', toks := tk' }) :
    wpAny (model PySem.Challenge.rw_oj0027_01.row.prog w) (ktrTop dp un gd cn cs L a ccd cl outer) (call (.ref 521) [.ref bf, .int i ti, .int j tj]) Q E s := by
  refine wpAny_call ?_
  walk_at "MINE enter"
  clear B X F T
  cases hv
  k_steps
  all_goals (try dsimp only)
  all_goals (
    refine leaveK_ (by k_asm) (by k_asm) ?_
    intro kF kN hkept
    exact ret _ _ kF (news_same N ks (news_sub kN (by lcg_sub)) hkept))

set_option maxHeartbeats 8000000 in
theorem hung_in {bf bd gp mk ls : Addr} {pt bv zv : Int} {es : List DictEntry} {bm : Bool} {i j : Int} {ti tj : Tok}
    (B : Below A₀ base outer h₀) (F : Fr h₀ L s.heap m) (X : (hd.heap_39 w.params).In h₀) (N : News h₀ L s.heap news) (T : Top hd.view_39 loose mean mg mb h₀) (hk : cs.kind = .function) (hdp : dp + 4 < recursionLimit) (hun : un + 100 < cLine)
    (hv : BufEs gp mk ls pt bv zv es)
    (ks : ∀ q ∈ [(bf, instObj 478 bd), (bd, dictOf es 20)], q ∈ news)
    (ret : ∀ h' tk', Fr h₀ L h' m → News h₀ L h' news → Q .none { s with heap := h', toks := tk' }) :
    wpAny (model PySem.Challenge.rw_oj0027_01.row.prog w) (ktrTop dp un gd cn cs L a ccd cl outer) (call (.ref 556) [.ref bf, .int i ti, .int j tj, .bool bm]) Q E s := by
  refine wpAny_call ?_
  walk_at "MINE enter"
  clear B X F T
  cases hv
  k_steps
  all_goals (try dsimp only)
  all_goals (
    refine leaveK_ (by k_asm) (by k_asm) ?_
    intro kF kN hkept
    exact ret _ _ kF (news_same N ks (news_sub kN (by lcg_sub)) hkept))

set_option maxHeartbeats 8000000 in
theorem hung_out {bf bd gp mk ls : Addr} {pt bv zv : Int} {es : List DictEntry} {i j : Int} {ti tj : Tok}
    (B : Below A₀ base outer h₀) (F : Fr h₀ L s.heap m) (X : (hd.heap_39 w.params).In h₀) (N : News h₀ L s.heap news) (T : Top hd.view_39 loose mean mg mb h₀) (hk : cs.kind = .function) (hdp : dp + 4 < recursionLimit) (hun : un + 100 < cLine)
    (hv : BufEs gp mk ls pt bv zv es)
    (ks : ∀ q ∈ [(bf, instObj 478 bd), (bd, dictOf es 20)], q ∈ news)
    (ret : ∀ h' tk', Fr h₀ L h' m → News h₀ L h' news → Q .none { s with heap := h', toks := tk' }) :
    wpAny (model PySem.Challenge.rw_oj0027_01.row.prog w) (ktrTop dp un gd cn cs L a ccd cl outer) (call (.ref 549) [.ref bf, .int i ti, .int j tj]) Q E s := by
  refine wpAny_call ?_
  walk_at "MINE enter"
  clear B X F T
  cases hv
  k_steps
  all_goals (try dsimp only)
  all_goals (
    refine leaveK_ (by k_asm) (by k_asm) ?_
    intro kF kN hkept
    exact ret _ _ kF (news_same N ks (news_sub kN (by lcg_sub)) hkept))

set_option maxHeartbeats 8000000 in
theorem markers_numbers {mk md rw : Addr} {hh : Int} {th : Tok} {o : Obj} 
    (B : Below A₀ base outer h₀) (F : Fr h₀ L s.heap m) (X : (hd.heap_39 w.params).In h₀) (N : News h₀ L s.heap news) (T : Top hd.view_39 loose mean mg mb h₀) (hk : cs.kind = .function) (hdp : dp + 4 < recursionLimit) (hun : un + 100 < cLine)
    (hrw : (rw == sysModules) = false) (hd1 : o.IsDictOf (strKind PySem.Challenge.rw_oj0027_01.row.prog w) []) (hd2 : o.IsDictOf (intKind PySem.Challenge.rw_oj0027_01.row.prog w) []) (hd3 : PyProof.V.FlatPairs PyData.int [] []) (hd4 : PyProof.V.FlatPairs PyData.str [] [])
    (ks : ∀ q ∈ [(mk, instObj 337 md), (md, dictOf [⟨hh, .str (Str.ofString "rows") th, .ref rw⟩] 1), (rw, o)], q ∈ news)
    (ret : ∀ D c' h' tk', Fr h₀ L h' m → News h₀ L h' ((D, listOf #[] c') :: news) → Q (.ref D) { s with heap := h', toks := tk' }) :
    wpAny (model PySem.Challenge.rw_oj0027_01.row.prog w) (ktrTop dp un gd cn cs L a ccd cl outer) (call (.ref 292) [.ref mk]) Q E s := by
  refine wpAny_call ?_
  walk_at "MINE enter2"
  clear B X F T
  rename (∀ q ∈ news, _) => hgr9
  k_steps
  all_goals (try dsimp only)
  rename IntsAre _ _ => hi9
  rename (List.length _ = 0) => hl9
  have hn9 := List.eq_nil_of_length_eq_zero hl9
  subst hn9
  cases hi9
  rename News _ _ _ _ => N9
  refine leaveK_ (by k_asm) N9 ?_
  intro kF kN hkept
  exact ret _ _ _ _ kF (news_cons_same N ks kN (by k_mem) (by lcg_sub) hkept)
end

section
variable {w : World} {dp un : Nat} {gd : Option (List Code)} {cn : Str} {cs : Scope} {L a : Addr} {ccd : Value} {cl : List (Str × Addr)} {outer : List Env} {A₀ : Around} {base h₀ : Heap} {m mg mb : Str → Option Value} {news : List (Addr × Obj)} {s : Shared} {loose : List Str} {mean : ExcName → Option Value} {Q E : Value → Shared → Prop}

set_option maxHeartbeats 8000000 in
theorem markers_inserted {mk md rw : Addr} {hh : Int} {th : Tok} {o : Obj} {bm : Bool} {i j : Int} {ti tj : Tok}
    (B : Below A₀ base outer h₀) (F : Fr h₀ L s.heap m) (X : (hd.heap_39 w.params).In h₀) (N : News h₀ L s.heap news) (T : Top hd.view_39 loose mean mg mb h₀) (hk : cs.kind = .function) (hdp : dp + 5 < recursionLimit) (hun : un + 120 < cLine)
    (hrw : (rw == sysModules) = false) (hd1 : o.IsDictOf (strKind PySem.Challenge.rw_oj0027_01.row.prog w) []) (hd2 : o.IsDictOf (intKind PySem.Challenge.rw_oj0027_01.row.prog w) []) (hd3 : PyProof.V.FlatPairs PyData.int [] []) (hd4 : PyProof.V.FlatPairs PyData.str [] [])
    (ks : ∀ q ∈ [(mk, instObj 337 md), (md, dictOf [⟨hh, .str (Str.ofString "rows") th, .ref rw⟩] 1), (rw, o)], q ∈ news)
    (ret : ∀ h' tk', Fr h₀ L h' m → News h₀ L h' news → Q .none { s with heap := h', toks := tk' }) :
    wpAny (model PySem.Challenge.rw_oj0027_01.row.prog w) (ktrTop dp un gd cn cs L a ccd cl outer) (call (.ref 320) [.ref mk, .int i ti, .int j tj, .bool bm]) Q E s := by
  refine wpAny_call ?_
  walk_at "MINE enter"
  clear B X F T
  (repeat' (first
    | (k_here; k_dflt ((with_reducible show wpAny _ _ (call (Value.ref _) _) _ _ _); first
      | ((with_reducible show wpAny _ _ (call (Value.ref 292) _) _ _ _); apply markers_numbers; (case hk => first | exact rfl | assumption); (case B => k_asm); (case F => k_asm); (case X => k_asm); (case N => k_asm); (case T => k_asm); (case hdp => ktr_room); (case hun => units_room); (case ks => lcg_sub); (case hrw => assumption); (case hd1 => assumption); (case hd2 => assumption); (case hd3 => assumption); (case hd4 => assumption); k_whole; intro D₉ c₉ h₉ tk₉ F₉ N₉; skip)
      ); (try dsimp only); (try k_fold))
    | (k_unfold; (try dsimp only)) | (k_end; wrow_close) | walk1 | (dsimp only; walk1) | (leave1; walk_say "STEP leave1"; try dsimp only) | fail "no step"))
  all_goals (try dsimp only)
  all_goals (
    refine leaveK_ (by k_asm) (by k_asm) ?_
    intro kF kN hkept
    exact ret _ _ kF (news_same N ks (news_sub kN (by lcg_sub)) hkept))

set_option maxHeartbeats 8000000 in
theorem markers_deleted {mk md rw : Addr} {hh : Int} {th : Tok} {o : Obj} {i j : Int} {ti tj : Tok}
    (B : Below A₀ base outer h₀) (F : Fr h₀ L s.heap m) (X : (hd.heap_39 w.params).In h₀) (N : News h₀ L s.heap news) (T : Top hd.view_39 loose mean mg mb h₀) (hk : cs.kind = .function) (hdp : dp + 5 < recursionLimit) (hun : un + 120 < cLine)
    (hrw : (rw == sysModules) = false) (hd1 : o.IsDictOf (strKind PySem.Challenge.rw_oj0027_01.row.prog w) []) (hd2 : o.IsDictOf (intKind PySem.Challenge.rw_oj0027_01.row.prog w) []) (hd3 : PyProof.V.FlatPairs PyData.int [] []) (hd4 : PyProof.V.FlatPairs PyData.str [] [])
    (ks : ∀ q ∈ [(mk, instObj 337 md), (md, dictOf [⟨hh, .str (Str.ofString "rows") th, .ref rw⟩] 1), (rw, o)], q ∈ news)
    (ret : ∀ h' tk', Fr h₀ L h' m → News h₀ L h' news → Q .none { s with heap := h', toks := tk' }) :
    wpAny (model PySem.Challenge.rw_oj0027_01.row.prog w) (ktrTop dp un gd cn cs L a ccd cl outer) (call (.ref 327) [.ref mk, .int i ti, .int j tj]) Q E s := by
  refine wpAny_call ?_
  walk_at "MINE enter"
  clear B X F T
  (repeat' (first
    | (k_here; k_dflt ((with_reducible show wpAny _ _ (call (Value.ref _) _) _ _ _); first
      | ((with_reducible show wpAny _ _ (call (Value.ref 292) _) _ _ _); apply markers_numbers; (case hk => first | exact rfl | assumption); (case B => k_asm); (case F => k_asm); (case X => k_asm); (case N => k_asm); (case T => k_asm); (case hdp => ktr_room); (case hun => units_room); (case ks => lcg_sub); (case hrw => assumption); (case hd1 => assumption); (case hd2 => assumption); (case hd3 => assumption); (case hd4 => assumption); k_whole; intro D₉ c₉ h₉ tk₉ F₉ N₉; skip)
      ); (try dsimp only); (try k_fold))
    | (k_unfold; (try dsimp only)) | (k_end; wrow_close) | walk1 | (dsimp only; walk1) | (leave1; walk_say "STEP leave1"; try dsimp only) | fail "no step"))
  all_goals (try dsimp only)
  all_goals (
    refine leaveK_ (by k_asm) (by k_asm) ?_
    intro kF kN hkept
    exact ret _ _ kF (news_same N ks (news_sub kN (by lcg_sub)) hkept))
end
end PartBuf1

section PartBuf2
section
variable {w : World} {dp un : Nat} {gd : Option (List Code)} {cn : Str} {cs : Scope} {L a : Addr} {ccd : Value} {cl : List (Str × Addr)} {outer : List Env} {A₀ : Around} {base h₀ : Heap} {m mg mb : Str → Option Value} {news : List (Addr × Obj)} {s : Shared} {loose : List Str} {mean : ExcName → Option Value} {Q E : Value → Shared → Prop}

set_option maxHeartbeats 8000000 in
theorem tell_behind {bf bd gp gd' ce mk md rw ls : Addr} {pt bv zv : Int} {es : List DictEntry} {c : Nat} {i j k : Int} {ti tj tk9 : Tok}
    (B : Below A₀ base outer h₀) (F : Fr h₀ L s.heap m) (X : (hd.heap_39 w.params).In h₀) (N : News h₀ L s.heap news) (T : Top hd.view_39 loose mean mg mb h₀) (hk : cs.kind = .function) (hdp : dp + 5 < recursionLimit) (hun : un + 120 < cLine)
    (hv : BufEs gp mk ls pt bv zv es) (ho : Asc [bd, bf, gd', gp, ce, md, mk, rw, ls])
    (ks : ∀ q ∈ [(bd, dictOf es 20)], q ∈ news) (ks' : ∀ q ∈ [(bf, instObj 478 bd), (ls, listOf #[] c)], q ∈ news)
    (ret : ∀ h' tk' es', BufEs gp mk ls pt bv zv es' → Fr h₀ L h' m → (∀ news', (∀ q ∈ news', q ∈ [(bd, dictOf es' 20)] ∨ (q ∈ news ∧ ∀ r ∈ [(bd, dictOf es 20)], q.1 ≠ r.1)) → News h₀ L h' news') → Q .none { s with heap := h', toks := tk' }) :
    wpAny (model PySem.Challenge.rw_oj0027_01.row.prog w) (ktrTop dp un gd cn cs L a ccd cl outer) (call (.ref 528) [.ref bf, .int i ti, .int j tj, .int k tk9]) Q E s := by
  refine wpAny_call ?_
  have kss : ∀ q ∈ [(bd, dictOf es 20)] ++ [(bf, instObj 478 bd), (ls, listOf #[] c)], q ∈ news := fun q hq => (List.mem_append.mp hq).elim (ks q) (ks' q)
  dsimp only [List.cons_append, List.nil_append] at kss
  walk_at "MINE enter"
  clear B X F T
  cases hv
  (repeat' (first
    | (k_here; k_dflt ((with_reducible show wpAny _ _ (call (Value.ref _) _) _ _ _); first
      | ((with_reducible show wpAny _ _ (call (Value.ref 236) _) _ _ _); apply gap_insert; (case hk => first | exact rfl | assumption); (case B => k_asm); (case F => k_asm); (case X => k_asm); (case N => k_asm); (case T => k_asm); (case hdp => ktr_room); (case hun => units_room); (case ks' => lcg_sub); (case ks => lcg_sub); (case hv => assumption); (case hi => assumption); (case hi2 => assumption); (case hg => assumption); (case hne1 => k_ne); (case hne2 => k_ne); (case hne3 => k_ne); (case hne4 => k_ne); (case hne5 => k_ne); (case hlen => walk_at "MINE om"); (case hms => walk_at "MINE om"); (case h0 => walk_at "MINE om"); (case hrm => walk_at "MINE om"); (case hrm1 => walk_at "MINE om"); (case hp => walk_at "MINE om"); k_whole; intro h₉ tk₉ es₉ gs₉ ge₉ ws₉ rs₉ c₉ hes₉ hi₉ hl₉ hg₉ F₉ hN₉; (have N₉ := hN₉ _ (upd2_done ⟨_, by k_updF, fun _ => by k_updF⟩ _ _)); clear hN₉; (try dsimp only at N₉))
      | ((with_reducible show wpAny _ _ (call (Value.ref 243) _) _ _ _); apply gap_delete; (case hk => first | exact rfl | assumption); (case B => k_asm); (case F => k_asm); (case X => k_asm); (case N => k_asm); (case T => k_asm); (case hdp => ktr_room); (case hun => units_room); (case ks' => lcg_sub); (case ks => lcg_sub); (case hv => assumption); (case hi => assumption); (case hg => assumption); (case hne1 => k_ne); (case hne2 => k_ne); (case hne3 => k_ne); (case hlen => walk_at "MINE om"); (case h0 => walk_at "MINE om"); (case hpq => walk_at "MINE om"); (case hq => walk_at "MINE om"); k_whole; intro v₉ h₉ tk₉ es₉ gs₉ ge₉ ws₉ rs₉ c₉ hes₉ hi₉ hl₉ hg₉ F₉ hN₉; (have N₉ := hN₉ _ (upd2_done ⟨_, by k_updF, fun _ => by k_updF⟩ _ _)); clear hN₉; (try dsimp only at N₉))
      ); (try dsimp only); (try k_fold))
    | (k_unfold; (try dsimp only)) | (k_end; wrow_close) | walk1 | (dsimp only; walk1) | (leave1; walk_say "STEP leave1"; try dsimp only) | fail "no step"))
  all_goals (try dsimp only)
  all_goals (
    refine leaveK_ (by k_asm) (by k_asm) ?_
    intro kF kN hkept
    refine ret _ _ _ (.mk ..) kF (fun news' hn => news_done N ks ks' (mods' := [(bd, dictOf _ 20)]) (news_sub kN (by lcg_sub)) hkept hn))

set_option maxHeartbeats 8000000 in
theorem text_in {bf bd gp gd' ce mk md rw ls : Addr} {pt bv zv : Int} {es : List DictEntry} {cd : Addr} {ges : List DictEntry} {c c9 : Nat} {rm gs ge p : Int} {tp : Tok} {ys zs : List Value} {ns tx ms : List Int}
    (B : Below A₀ base outer h₀) (F : Fr h₀ L s.heap m) (X : (hd.heap_39 w.params).In h₀) (N : News h₀ L s.heap news) (T : Top hd.view_39 loose mean mg mb h₀) (hk : cs.kind = .function) (hdp : dp + 8 < recursionLimit) (hun : un + 160 < cLine)
    (hv : BufEs gp mk ls pt bv zv es) (ho : Asc [bd, bf, gd', gp, ce, md, mk, rw, ls]) (hge : GapEs ges rm ce gs ge) (hi : IntsAre ys ns) (hlen : ns.length ≤ 100) (hrm : 0 ≤ rm) (hrm1 : rm ≤ 100) (hg : GapHas ns gs ge tx) (hi2 : IntsAre zs ms) (hms : ms.length ≤ 100) (hcd : @LT.lt Nat _ cd bd ∨ @LT.lt Nat _ ls cd) (hp0 : 1 ≤ p) (hp : p ≤ tx.length + 1)
    (ks : ∀ q ∈ [(bd, dictOf es 20), (gd', dictOf ges 4), (ce, listOf ys.toArray c)], q ∈ news) (ks' : ∀ q ∈ [(bf, instObj 478 bd), (gp, instObj 267 gd'), (cd, listOf zs.toArray c9)], q ∈ news)
    (ret : ∀ h' tk' es' pt' ges' gs' ge' ws rs c', BufEs gp mk ls pt' bv (zv + ms.length) es' → GapEs ges' rm ce gs' ge' → IntsAre ws rs → (rs.length : Int) ≤ ns.length + ms.length + rm → GapHas rs gs' ge' (tx.take (p - 1).toNat ++ ms ++ tx.drop (p - 1).toNat) → Fr h₀ L h' m → (∀ news', (∀ q ∈ news', q ∈ [(bd, dictOf es' 20), (gd', dictOf ges' 4), (ce, listOf (List.toArray ws) c')] ∨ (q ∈ news ∧ ∀ r ∈ [(bd, dictOf es 20), (gd', dictOf ges 4), (ce, listOf ys.toArray c)], q.1 ≠ r.1)) → News h₀ L h' news') → Q .none { s with heap := h', toks := tk' }) :
    wpAny (model PySem.Challenge.rw_oj0027_01.row.prog w) (ktrTop dp un gd cn cs L a ccd cl outer) (call (.ref 542) [.ref bf, .int p tp, .ref cd]) Q E s := by
  refine wpAny_call ?_
  have kss : ∀ q ∈ [(bd, dictOf es 20), (gd', dictOf ges 4), (ce, listOf ys.toArray c)] ++ [(bf, instObj 478 bd), (gp, instObj 267 gd'), (cd, listOf zs.toArray c9)], q ∈ news := fun q hq => (List.mem_append.mp hq).elim (ks q) (ks' q)
  dsimp only [List.cons_append, List.nil_append] at kss
  walk_at "MINE enter"
  clear B X F T
  cases hv
  have hge' := hge
  obtain ⟨h1, t1, u1, h2, t2, h3, t3, u3, h4, t4, u4, rfl⟩ := hge
  (repeat' (first
    | (k_here; k_dflt ((with_reducible show wpAny _ _ (call (Value.ref _) _) _ _ _); first
      | ((with_reducible show wpAny _ _ (call (Value.ref 236) _) _ _ _); apply gap_insert; (case hk => first | exact rfl | assumption); (case B => k_asm); (case F => k_asm); (case X => k_asm); (case N => k_asm); (case T => k_asm); (case hdp => ktr_room); (case hun => units_room); (case ks' => lcg_sub); (case ks => lcg_sub); (case hv => assumption); (case hi => assumption); (case hi2 => assumption); (case hg => assumption); (case hne1 => k_ne); (case hne2 => k_ne); (case hne3 => k_ne); (case hne4 => k_ne); (case hne5 => k_ne); (case hlen => walk_at "MINE om"); (case hms => walk_at "MINE om"); (case h0 => walk_at "MINE om"); (case hrm => walk_at "MINE om"); (case hrm1 => walk_at "MINE om"); (case hp => walk_at "MINE om"); k_whole; intro h₉ tk₉ es₉ gs₉ ge₉ ws₉ rs₉ c₉ hes₉ hi₉ hl₉ hg₉ F₉ hN₉; (have N₉ := hN₉ _ (upd2_done ⟨_, by k_updF, fun _ => by k_updF⟩ _ _)); clear hN₉; (try dsimp only at N₉))
      | ((with_reducible show wpAny _ _ (call (Value.ref 243) _) _ _ _); apply gap_delete; (case hk => first | exact rfl | assumption); (case B => k_asm); (case F => k_asm); (case X => k_asm); (case N => k_asm); (case T => k_asm); (case hdp => ktr_room); (case hun => units_room); (case ks' => lcg_sub); (case ks => lcg_sub); (case hv => assumption); (case hi => assumption); (case hg => assumption); (case hne1 => k_ne); (case hne2 => k_ne); (case hne3 => k_ne); (case hlen => walk_at "MINE om"); (case h0 => walk_at "MINE om"); (case hpq => walk_at "MINE om"); (case hq => walk_at "MINE om"); k_whole; intro v₉ h₉ tk₉ es₉ gs₉ ge₉ ws₉ rs₉ c₉ hes₉ hi₉ hl₉ hg₉ F₉ hN₉; (have N₉ := hN₉ _ (upd2_done ⟨_, by k_updF, fun _ => by k_updF⟩ _ _)); clear hN₉; (try dsimp only at N₉))
      ); (try dsimp only); (try k_fold))
    | (k_unfold; (try dsimp only)) | (k_end; wrow_close) | walk1 | (dsimp only; walk1) | (leave1; walk_say "STEP leave1"; try dsimp only) | fail "no step"))
  all_goals (try dsimp only)
  all_goals (
    rename GapHas _ _ _ _ => hg9
    rename GapEs _ _ _ _ _ => he9
    rename IntsAre _ _ => hi9
    refine leaveK_ (by k_asm) (by k_asm) ?_
    intro kF kN hkept
    refine ret _ _ _ _ _ _ _ _ _ _ (.mk ..) he9 hi9 (by assumption) hg9 kF (fun news' hn => news_done N ks ks' (mods' := [(bd, dictOf _ 20), (gd', dictOf _ 4), (ce, listOf (List.toArray _) _)]) (news_sub kN (by lcg_sub)) hkept hn))

set_option maxHeartbeats 8000000 in
theorem text_out {bf bd gp gd' ce mk md rw ls : Addr} {pt bv zv : Int} {es : List DictEntry} {ges : List DictEntry} {c : Nat} {rm gs ge p : Int} {tp : Tok} {ys : List Value} {ns tx : List Int}{q : Int} {tq : Tok}
    (B : Below A₀ base outer h₀) (F : Fr h₀ L s.heap m) (X : (hd.heap_39 w.params).In h₀) (N : News h₀ L s.heap news) (T : Top hd.view_39 loose mean mg mb h₀) (hk : cs.kind = .function) (hdp : dp + 8 < recursionLimit) (hun : un + 160 < cLine)
    (hv : BufEs gp mk ls pt bv zv es) (ho : Asc [bd, bf, gd', gp, ce, md, mk, rw, ls]) (hge : GapEs ges rm ce gs ge) (hi : IntsAre ys ns) (hlen : ns.length ≤ 100) (hrm : 0 ≤ rm) (hrm1 : rm ≤ 100) (hg : GapHas ns gs ge tx) (hp0 : 1 ≤ p) (hpq : p ≤ q) (hq : q ≤ tx.length + 1)
    (ks : ∀ q ∈ [(bd, dictOf es 20), (gd', dictOf ges 4), (ce, listOf ys.toArray c)], q ∈ news) (ks' : ∀ q ∈ [(bf, instObj 478 bd), (gp, instObj 267 gd')], q ∈ news)
    (ret : ∀ v h' tk' es' pt' ges' gs' ge' ws rs c', BufEs gp mk ls pt' bv (zv - (q - p)) es' → GapEs ges' rm ce gs' ge' → IntsAre ws rs → rs.length = ns.length → GapHas rs gs' ge' (tx.take (p - 1).toNat ++ tx.drop (q - 1).toNat) → Fr h₀ L h' m → (∀ news', (∀ q ∈ news', q ∈ [(bd, dictOf es' 20), (gd', dictOf ges' 4), (ce, listOf (List.toArray ws) c')] ∨ (q ∈ news ∧ ∀ r ∈ [(bd, dictOf es 20), (gd', dictOf ges 4), (ce, listOf ys.toArray c)], q.1 ≠ r.1)) → News h₀ L h' news') → Q v { s with heap := h', toks := tk' }) :
    wpAny (model PySem.Challenge.rw_oj0027_01.row.prog w) (ktrTop dp un gd cn cs L a ccd cl outer) (call (.ref 535) [.ref bf, .int p tp, .int q tq]) Q E s := by
  refine wpAny_call ?_
  have kss : ∀ q ∈ [(bd, dictOf es 20), (gd', dictOf ges 4), (ce, listOf ys.toArray c)] ++ [(bf, instObj 478 bd), (gp, instObj 267 gd')], q ∈ news := fun q hq => (List.mem_append.mp hq).elim (ks q) (ks' q)
  dsimp only [List.cons_append, List.nil_append] at kss
  walk_at "MINE enter"
  clear B X F T
  cases hv
  have hge' := hge
  obtain ⟨h1, t1, u1, h2, t2, h3, t3, u3, h4, t4, u4, rfl⟩ := hge
  (repeat' (first
    | (k_here; k_dflt ((with_reducible show wpAny _ _ (call (Value.ref _) _) _ _ _); first
      | ((with_reducible show wpAny _ _ (call (Value.ref 236) _) _ _ _); apply gap_insert; (case hk => first | exact rfl | assumption); (case B => k_asm); (case F => k_asm); (case X => k_asm); (case N => k_asm); (case T => k_asm); (case hdp => ktr_room); (case hun => units_room); (case ks' => lcg_sub); (case ks => lcg_sub); (case hv => assumption); (case hi => assumption); (case hi2 => assumption); (case hg => assumption); (case hne1 => k_ne); (case hne2 => k_ne); (case hne3 => k_ne); (case hne4 => k_ne); (case hne5 => k_ne); (case hlen => walk_at "MINE om"); (case hms => walk_at "MINE om"); (case h0 => walk_at "MINE om"); (case hrm => walk_at "MINE om"); (case hrm1 => walk_at "MINE om"); (case hp => walk_at "MINE om"); k_whole; intro h₉ tk₉ es₉ gs₉ ge₉ ws₉ rs₉ c₉ hes₉ hi₉ hl₉ hg₉ F₉ hN₉; (have N₉ := hN₉ _ (upd2_done ⟨_, by k_updF, fun _ => by k_updF⟩ _ _)); clear hN₉; (try dsimp only at N₉))
      | ((with_reducible show wpAny _ _ (call (Value.ref 243) _) _ _ _); apply gap_delete; (case hk => first | exact rfl | assumption); (case B => k_asm); (case F => k_asm); (case X => k_asm); (case N => k_asm); (case T => k_asm); (case hdp => ktr_room); (case hun => units_room); (case ks' => lcg_sub); (case ks => lcg_sub); (case hv => assumption); (case hi => assumption); (case hg => assumption); (case hne1 => k_ne); (case hne2 => k_ne); (case hne3 => k_ne); (case hlen => walk_at "MINE om"); (case h0 => walk_at "MINE om"); (case hpq => walk_at "MINE om"); (case hq => walk_at "MINE om"); k_whole; intro v₉ h₉ tk₉ es₉ gs₉ ge₉ ws₉ rs₉ c₉ hes₉ hi₉ hl₉ hg₉ F₉ hN₉; (have N₉ := hN₉ _ (upd2_done ⟨_, by k_updF, fun _ => by k_updF⟩ _ _)); clear hN₉; (try dsimp only at N₉))
      ); (try dsimp only); (try k_fold))
    | (k_unfold; (try dsimp only)) | (k_end; wrow_close) | walk1 | (dsimp only; walk1) | (leave1; walk_say "STEP leave1"; try dsimp only) | fail "no step"))
  all_goals (try dsimp only)
  all_goals (
    rename GapHas _ _ _ _ => hg9
    rename GapEs _ _ _ _ _ => he9
    rename IntsAre _ _ => hi9
    refine leaveK_ (by k_asm) (by k_asm) ?_
    intro kF kN hkept
    refine ret _ _ _ _ _ _ _ _ _ _ _ (.mk ..) he9 hi9 (by assumption) hg9 kF (fun news' hn => news_done N ks ks' (mods' := [(bd, dictOf _ 20), (gd', dictOf _ 4), (ce, listOf (List.toArray _) _)]) (news_sub kN (by lcg_sub)) hkept hn))
end
end PartBuf2

section PartBuf3
section
variable {w : World} {dp un : Nat} {gd : Option (List Code)} {cn : Str} {cs : Scope} {L a : Addr} {ccd : Value} {cl : List (Str × Addr)} {outer : List Env} {A₀ : Around} {base h₀ : Heap} {m mg mb : Str → Option Value} {news : List (Addr × Obj)} {s : Shared} {loose : List Str} {mean : ExcName → Option Value} {Q E : Value → Shared → Prop}

set_option maxHeartbeats 8000000 in
theorem reached_call {bf bd gp mk ls : Addr} {pt bv zv : Int} {es : List DictEntry} {p q : Int} {tp tq : Tok}
    (B : Below A₀ base outer h₀) (F : Fr h₀ L s.heap m) (X : (hd.heap_39 w.params).In h₀) (N : News h₀ L s.heap news) (T : Top hd.view_39 loose mean mg mb h₀) (hk : cs.kind = .function) (hdp : dp + 4 < recursionLimit) (hun : un + 100 < cLine)
    (hv : BufEs gp mk ls pt bv zv es) (hpq : p ≤ q) (hb : bv ≤ p) (hz : q ≤ zv)
    (ks : ∀ q ∈ [(bf, instObj 478 bd), (bd, dictOf es 20)], q ∈ news)
    (ret : ∀ D u1 u2 c' h' tk', (∀ r ∈ news, Apart r.1 D) → Fr h₀ L h' m → News h₀ L h' ((D, { cls := .type "tuple", data := .seq #[.int p u1, .int q u2] c' }) :: news) → Q (.ref D) { s with heap := h', toks := tk' }) :
    wpAny (model PySem.Challenge.rw_oj0027_01.row.prog w) (ktrTop dp un gd cn cs L a ccd cl outer) (call (.ref 514) [.ref bf, .int p tp, .int q tq]) Q E s := by
  refine wpAny_call ?_
  walk_at "MINE enter2"
  clear B X F T
  rename (∀ q ∈ news, _) => hgr9
  cases hv
  have hmin : min p q = p := by walk_at "MINE om"
  have hmax : max p q = q := by walk_at "MINE om"
  k_steps
  all_goals (try dsimp only)
  rename News _ _ _ _ => N9
  have e1 : (if q < p then q else p) = p := if_neg (by walk_at "MINE om")
  have e2 : (if q > p then q else p) = q := by split <;> walk_at "MINE om"
  simp only [e1, e2] at N9
  refine leaveK_ (by k_asm) N9 ?_
  intro kF kN hkept
  refine ret _ _ _ _ _ _ (apart_all N hgr9 N9 (by k_mem) (by k_all)) kF (news_cons_same N ks kN (by k_mem) (by lcg_sub) hkept)
end

section
variable {w : World} {dp un : Nat} {gd : Option (List Code)} {cn : Str} {cs : Scope} {L a : Addr} {ccd : Value} {cl : List (Str × Addr)} {outer : List Env} {A₀ : Around} {base h₀ : Heap} {m mg mb : Str → Option Value} {news : List (Addr × Obj)} {s : Shared} {loose : List Str} {mean : ExcName → Option Value} {Q E : Value → Shared → Prop}

set_option maxHeartbeats 8000000 in
theorem put_in {bf bd gp gd' ce mk md rw ls : Addr} {pt bv zv : Int} {es : List DictEntry} {cd : Addr} {ges : List DictEntry} {c c9 c8 : Nat} {rm gs ge : Int} {ys zs : List Value} {ns tx ms : List Int} {hh : Int} {th : Tok} {orw : Obj} {p : Int} {tp : Tok} {bm ib : Bool}
    (B : Below A₀ base outer h₀) (F : Fr h₀ L s.heap m) (X : (hd.heap_39 w.params).In h₀) (N : News h₀ L s.heap news) (T : Top hd.view_39 loose mean mg mb h₀) (hk : cs.kind = .function) (hdp : dp + 12 < recursionLimit) (hun : un + 300 < cLine)
    (hv : BufEs gp mk ls pt bv zv es) (ho : Asc [bd, bf, gd', gp, ce, md, mk, rw, ls]) (hge : GapEs ges rm ce gs ge) (hi : IntsAre ys ns) (hlen : ns.length ≤ 100) (hrm : 0 ≤ rm) (hrm1 : rm ≤ 100) (hg : GapHas ns gs ge tx) (hrw : (rw == sysModules) = false) (hd1 : orw.IsDictOf (strKind PySem.Challenge.rw_oj0027_01.row.prog w) []) (hd2 : orw.IsDictOf (intKind PySem.Challenge.rw_oj0027_01.row.prog w) []) (hd3 : PyProof.V.FlatPairs PyData.int [] []) (hd4 : PyProof.V.FlatPairs PyData.str [] []) (hi2 : IntsAre zs ms) (hms : ms.length ≤ 100) (hcd : @LT.lt Nat _ cd bd ∨ @LT.lt Nat _ ls cd) (hbv : bv = 1) (hzv : zv = tx.length + 1) (hp0 : 1 ≤ p) (hp : p ≤ tx.length + 1)
    (ks : ∀ q ∈ [(bd, dictOf es 20), (gd', dictOf ges 4), (ce, listOf ys.toArray c)], q ∈ news) (ks' : ∀ q ∈ [(bf, instObj 478 bd), (gp, instObj 267 gd'), (cd, listOf zs.toArray c9), (ls, listOf #[] c8), (mk, instObj 337 md), (md, dictOf [⟨hh, .str (Str.ofString "rows") th, .ref rw⟩] 1), (rw, orw)], q ∈ news)
    (ret : ∀ h' tk' es' pt' zv' ges' gs' ge' ws rs c' tx', tx' = tx.take (p - 1).toNat ++ ms ++ tx.drop (p - 1).toNat → zv' = (tx'.length : Int) + 1 → BufEs gp mk ls pt' 1 zv' es' → GapEs ges' rm ce gs' ge' → IntsAre ws rs → (rs.length : Int) ≤ ns.length + ms.length + rm → GapHas rs gs' ge' tx' → Fr h₀ L h' m → (∀ news', (∀ q ∈ news', q ∈ [(bd, dictOf es' 20), (gd', dictOf ges' 4), (ce, listOf (List.toArray ws) c')] ∨ (q ∈ news ∧ ∀ r ∈ [(bd, dictOf es 20), (gd', dictOf ges 4), (ce, listOf ys.toArray c)], q.1 ≠ r.1)) → News h₀ L h' news') → Q .none { s with heap := h', toks := tk' }) :
    wpAny (model PySem.Challenge.rw_oj0027_01.row.prog w) (ktrTop dp un gd cn cs L a ccd cl outer) (call (.ref 563) [.ref bf, .int p tp, .ref cd, .bool bm, .bool ib]) Q E s := by
  refine wpAny_call ?_
  have kss : ∀ q ∈ [(bd, dictOf es 20), (gd', dictOf ges 4), (ce, listOf ys.toArray c)] ++ [(bf, instObj 478 bd), (gp, instObj 267 gd'), (cd, listOf zs.toArray c9), (ls, listOf #[] c8), (mk, instObj 337 md), (md, dictOf [⟨hh, .str (Str.ofString "rows") th, .ref rw⟩] 1), (rw, orw)], q ∈ news := fun q hq => (List.mem_append.mp hq).elim (ks q) (ks' q)
  dsimp only [List.cons_append, List.nil_append] at kss
  walk_at "MINE enter"
  clear B X F T
  cases hv
  subst hbv
  (repeat' (first
    | (k_here; k_dflt ((with_reducible show wpAny _ _ (call (Value.ref _) _) _ _ _); first
      | ((with_reducible show wpAny _ _ (call (Value.ref 507) _) _ _ _); apply need_writable; (case hk => first | exact rfl | assumption); (case B => k_asm); (case F => k_asm); (case X => k_asm); (case N => k_asm); (case T => k_asm); (case hdp => ktr_room); (case hun => units_room); (case ks => lcg_sub); (case hv => first | assumption | exact BufEs.mk ..); k_whole; intro h₉ tk₉ F₉ N₉; skip)
      | ((with_reducible show wpAny _ _ (call (Value.ref 521) _) _ _ _); apply tell_ahead; (case hk => first | exact rfl | assumption); (case B => k_asm); (case F => k_asm); (case X => k_asm); (case N => k_asm); (case T => k_asm); (case hdp => ktr_room); (case hun => units_room); (case ks => lcg_sub); (case hv => first | assumption | exact BufEs.mk ..); k_whole; intro h₉ tk₉ F₉ N₉; skip)
      | ((with_reducible show wpAny _ _ (call (Value.ref 556) _) _ _ _); apply hung_in; (case hk => first | exact rfl | assumption); (case B => k_asm); (case F => k_asm); (case X => k_asm); (case N => k_asm); (case T => k_asm); (case hdp => ktr_room); (case hun => units_room); (case ks => lcg_sub); (case hv => first | assumption | exact BufEs.mk ..); k_whole; intro h₉ tk₉ F₉ N₉; skip)
      | ((with_reducible show wpAny _ _ (call (Value.ref 320) _) _ _ _); apply markers_inserted; (case hk => first | exact rfl | assumption); (case B => k_asm); (case F => k_asm); (case X => k_asm); (case N => k_asm); (case T => k_asm); (case hdp => ktr_room); (case hun => units_room); (case ks => lcg_sub); (case hrw => assumption); (case hd1 => assumption); (case hd2 => assumption); (case hd3 => assumption); (case hd4 => assumption); k_whole; intro h₉ tk₉ F₉ N₉; skip)
      | ((with_reducible show wpAny _ _ (call (Value.ref 528) _) _ _ _); apply tell_behind; (case hk => first | exact rfl | assumption); (case B => k_asm); (case F => k_asm); (case X => k_asm); (case N => k_asm); (case T => k_asm); (case hdp => ktr_room); (case hun => units_room); (case ks => lcg_sub); (case ks' => lcg_sub); (case hv => first | assumption | exact BufEs.mk ..); (case ho => assumption); k_whole; intro h₉ tk₉ es₉ hes₉ F₉ hN₉; (have N₉ := hN₉ _ (updF_done (by k_updF) _)); clear hN₉; (try dsimp only at N₉); cases hes₉)
      | ((with_reducible show wpAny _ _ (call (Value.ref 542) _) _ _ _); apply text_in; (case hk => first | exact rfl | assumption); (case B => k_asm); (case F => k_asm); (case X => k_asm); (case N => k_asm); (case T => k_asm); (case hdp => ktr_room); (case hun => units_room); (case ks' => lcg_sub); (case ks => lcg_sub); (case hv => first | assumption | exact BufEs.mk ..); (case hge => assumption); (case hg => assumption); (case hi => assumption); (case ho => assumption); (case hlen => walk_at "MINE om"); (case hrm => walk_at "MINE om"); (case hrm1 => walk_at "MINE om"); (case hi2 => assumption); (case hms => walk_at "MINE om"); (case hcd => assumption); (case hp0 => walk_at "MINE om"); (case hp => walk_at "MINE om"); k_whole; intro h₉ tk₉ es₉ pt₉ ges₉ gs₉ ge₉ ws₉ rs₉ c₉ hes₉ hge₉ hi₉ hl₉ hg₉ F₉ hN₉; (have N₉ := hN₉ _ (upd3_done ⟨_, by k_updF, fun _ => ⟨_, by k_updF, fun _ => by k_updF⟩⟩ _ _ _)); clear hN₉; (try dsimp only at N₉); cases hes₉)
      | ((with_reducible show wpAny _ _ (call (Value.ref 514) _) _ _ _); apply reached_call; (case hk => first | exact rfl | assumption); (case B => k_asm); (case F => k_asm); (case X => k_asm); (case N => k_asm); (case T => k_asm); (case hdp => ktr_room); (case hun => units_room); (case ks => lcg_sub); (case hv => first | assumption | exact BufEs.mk ..); (case hpq => walk_at "MINE om"); (case hb => walk_at "MINE om"); (case hz => walk_at "MINE om"); k_whole; intro T₉ u1₉ u2₉ c₉ h₉ tk₉ hap₉ F₉ hN₉; clear hap₉; (have N₉ := fun q hq => hN₉ q (List.mem_cons_of_mem _ hq)); clear hN₉; change News _ _ _ _ at N₉)
      ); (try dsimp only); (try k_fold))
    | (k_unfold; (try dsimp only)) | (k_end; wrow_close) | walk1 | (dsimp only; walk1) | (leave1; walk_say "STEP leave1"; try dsimp only) | fail "no step"))
  all_goals (try dsimp only)
  · rename (_ = (0 : Int)) => hz9
    have hm9 : ms = [] := List.eq_nil_of_length_eq_zero (by walk_at "MINE om")
    refine leaveK_ (by k_asm) (by k_asm) ?_
    intro kF kN hkept
    refine ret _ _ _ _ zv _ _ _ _ _ _ tx (by rw [hm9, List.append_nil, List.take_append_drop]) hzv (.mk ..) hge hi (by walk_at "MINE om") hg kF (fun news' hn => news_done N ks ks' (mods' := [(bd, dictOf _ 20), (gd', dictOf _ 4), (ce, listOf (List.toArray _) _)]) (news_sub kN (by lcg_sub)) hkept hn)
  all_goals (
    rename GapHas _ _ _ _ => hg9
    rename GapEs _ _ _ _ _ => he9
    rename IntsAre _ _ => hi9
    refine leaveK_ (by k_asm) (by k_asm) ?_
    intro kF kN hkept
    refine ret _ _ _ _ _ _ _ _ _ _ _ _ rfl ?_ (.mk ..) he9 hi9 (by assumption) hg9 kF (fun news' hn => news_done N ks ks' (mods' := [(bd, dictOf _ 20), (gd', dictOf _ 4), (ce, listOf (List.toArray _) _)]) (news_sub kN (by lcg_sub)) hkept hn)
    simp only [List.length_append, List.length_take, List.length_drop]
    walk_at "MINE om")
end
end PartBuf3

section PartBuf4
section
variable {w : World} {dp un : Nat} {gd : Option (List Code)} {cn : Str} {cs : Scope} {L a : Addr} {ccd : Value} {cl : List (Str × Addr)} {outer : List Env} {A₀ : Around} {base h₀ : Heap} {m mg mb : Str → Option Value} {news : List (Addr × Obj)} {s : Shared} {loose : List Str} {mean : ExcName → Option Value} {Q E : Value → Shared → Prop}

set_option maxHeartbeats 8000000 in
theorem buf_insert {bf bd gp gd' ce mk md rw ls : Addr} {pt bv zv : Int} {es : List DictEntry} {cd : Addr} {ges : List DictEntry} {c c9 c8 : Nat} {rm gs ge : Int} {ys zs : List Value} {ns tx ms : List Int} {hh : Int} {th : Tok} {orw : Obj} 
    (B : Below A₀ base outer h₀) (F : Fr h₀ L s.heap m) (X : (hd.heap_39 w.params).In h₀) (N : News h₀ L s.heap news) (T : Top hd.view_39 loose mean mg mb h₀) (hk : cs.kind = .function) (hdp : dp + 14 < recursionLimit) (hun : un + 340 < cLine)
    (hv : BufEs gp mk ls pt bv zv es) (ho : Asc [bd, bf, gd', gp, ce, md, mk, rw, ls]) (hge : GapEs ges rm ce gs ge) (hi : IntsAre ys ns) (hlen : ns.length ≤ 100) (hrm : 0 ≤ rm) (hrm1 : rm ≤ 100) (hg : GapHas ns gs ge tx) (hrw : (rw == sysModules) = false) (hd1 : orw.IsDictOf (strKind PySem.Challenge.rw_oj0027_01.row.prog w) []) (hd2 : orw.IsDictOf (intKind PySem.Challenge.rw_oj0027_01.row.prog w) []) (hd3 : PyProof.V.FlatPairs PyData.int [] []) (hd4 : PyProof.V.FlatPairs PyData.str [] []) (hi2 : IntsAre zs ms) (hms : ms.length ≤ 100) (hcd : @LT.lt Nat _ cd bd ∨ @LT.lt Nat _ ls cd) (hbv : bv = 1) (hzv : zv = tx.length + 1) (hp0 : 1 ≤ pt) (hp : pt ≤ tx.length + 1)
    (ks : ∀ q ∈ [(bd, dictOf es 20), (gd', dictOf ges 4), (ce, listOf ys.toArray c)], q ∈ news) (ks' : ∀ q ∈ [(bf, instObj 478 bd), (gp, instObj 267 gd'), (cd, listOf zs.toArray c9), (ls, listOf #[] c8), (mk, instObj 337 md), (md, dictOf [⟨hh, .str (Str.ofString "rows") th, .ref rw⟩] 1), (rw, orw)], q ∈ news)
    (ret : ∀ h' tk' es' pt' zv' ges' gs' ge' ws rs c' tx', tx' = tx.take (pt - 1).toNat ++ ms ++ tx.drop (pt - 1).toNat → zv' = (tx'.length : Int) + 1 → BufEs gp mk ls pt' 1 zv' es' → GapEs ges' rm ce gs' ge' → IntsAre ws rs → (rs.length : Int) ≤ ns.length + ms.length + rm → GapHas rs gs' ge' tx' → Fr h₀ L h' m → (∀ news', (∀ q ∈ news', q ∈ [(bd, dictOf es' 20), (gd', dictOf ges' 4), (ce, listOf (List.toArray ws) c')] ∨ (q ∈ news ∧ ∀ r ∈ [(bd, dictOf es 20), (gd', dictOf ges 4), (ce, listOf ys.toArray c)], q.1 ≠ r.1)) → News h₀ L h' news') → Q .none { s with heap := h', toks := tk' }) :
    wpAny (model PySem.Challenge.rw_oj0027_01.row.prog w) (ktrTop dp un gd cn cs L a ccd cl outer) (call (.ref 579) [.ref bf, .ref cd]) Q E s := by
  refine wpAny_call ?_
  have kss : ∀ q ∈ [(bd, dictOf es 20), (gd', dictOf ges 4), (ce, listOf ys.toArray c)] ++ [(bf, instObj 478 bd), (gp, instObj 267 gd'), (cd, listOf zs.toArray c9), (ls, listOf #[] c8), (mk, instObj 337 md), (md, dictOf [⟨hh, .str (Str.ofString "rows") th, .ref rw⟩] 1), (rw, orw)], q ∈ news := fun q hq => (List.mem_append.mp hq).elim (ks q) (ks' q)
  dsimp only [List.cons_append, List.nil_append] at kss
  walk_at "MINE enter"
  clear B X F T
  cases hv
  subst hbv
  (repeat' (first
    | (k_here; k_dflt ((with_reducible show wpAny _ _ (call (Value.ref _) _) _ _ _); first
      | ((with_reducible show wpAny _ _ (call (Value.ref 563) _) _ _ _); apply put_in; (case hk => first | exact rfl | assumption); (case B => k_asm); (case F => k_asm); (case X => k_asm); (case N => k_asm); (case T => k_asm); (case hdp => ktr_room); (case hun => units_room); (case ks' => lcg_sub); (case ks => lcg_sub); (case hv => first | assumption | exact BufEs.mk ..); (case hge => assumption); (case hg => assumption); (case hi => assumption); (case ho => assumption); (case hlen => walk_at "MINE om"); (case hrm => walk_at "MINE om"); (case hrm1 => walk_at "MINE om"); (case hrw => assumption); (case hd1 => assumption); (case hd2 => assumption); (case hd3 => assumption); (case hd4 => assumption); (case hi2 => assumption); (case hms => walk_at "MINE om"); (case hcd => assumption); (case hbv => first | exact rfl | assumption); (case hzv => assumption); (case hp0 => walk_at "MINE om"); (case hp => walk_at "MINE om"); k_whole; intro h₉ tk₉ es₉ pt₉ zv₉ ges₉ gs₉ ge₉ ws₉ rs₉ c₉ tx₉ htx₉ hzv₉ hes₉ hge₉ hi₉ hl₉ hg₉ F₉ hN₉; (have N₉ := hN₉ _ (upd3_done ⟨_, by k_updF, fun _ => ⟨_, by k_updF, fun _ => by k_updF⟩⟩ _ _ _)); clear hN₉; (try dsimp only at N₉))
      | ((with_reducible show wpAny _ _ (call (Value.ref 507) _) _ _ _); apply need_writable; (case hk => first | exact rfl | assumption); (case B => k_asm); (case F => k_asm); (case X => k_asm); (case N => k_asm); (case T => k_asm); (case hdp => ktr_room); (case hun => units_room); (case ks => lcg_sub); (case hv => first | assumption | exact BufEs.mk ..); k_whole; intro h₉ tk₉ F₉ N₉; skip)
      | ((with_reducible show wpAny _ _ (call (Value.ref 514) _) _ _ _); apply reached_call; (case hk => first | exact rfl | assumption); (case B => k_asm); (case F => k_asm); (case X => k_asm); (case N => k_asm); (case T => k_asm); (case hdp => ktr_room); (case hun => units_room); (case ks => lcg_sub); (case hv => first | assumption | exact BufEs.mk ..); (case hpq => walk_at "MINE om"); (case hb => walk_at "MINE om"); (case hz => walk_at "MINE om"); k_whole; intro T₉ u1₉ u2₉ c₉ h₉ tk₉ hap₉ F₉ N₉; skip)
      | ((with_reducible show wpAny _ _ (call (Value.ref 521) _) _ _ _); apply tell_ahead; (case hk => first | exact rfl | assumption); (case B => k_asm); (case F => k_asm); (case X => k_asm); (case N => k_asm); (case T => k_asm); (case hdp => ktr_room); (case hun => units_room); (case ks => lcg_sub); (case hv => first | assumption | exact BufEs.mk ..); k_whole; intro h₉ tk₉ F₉ N₉; skip)
      | ((with_reducible show wpAny _ _ (call (Value.ref 535) _) _ _ _); apply text_out; (case hk => first | exact rfl | assumption); (case B => k_asm); (case F => k_asm); (case X => k_asm); (case N => k_asm); (case T => k_asm); (case hdp => ktr_room); (case hun => units_room); (case ks' => lcg_sub); (case ks => lcg_sub); (case hv => first | assumption | exact BufEs.mk ..); (case hge => assumption); (case hg => assumption); (case hi => assumption); (case ho => assumption); (case hlen => walk_at "MINE om"); (case hrm => walk_at "MINE om"); (case hrm1 => walk_at "MINE om"); (case hp0 => walk_at "MINE om"); (case hpq => walk_at "MINE om"); (case hq => walk_at "MINE om"); k_whole; intro v₉ h₉ tk₉ es₉ pt₉ ges₉ gs₉ ge₉ ws₉ rs₉ c₉ hes₉ hge₉ hi₉ hl₉ hg₉ F₉ hN₉; (have N₉ := hN₉ _ (upd3_done ⟨_, by k_updF, fun _ => ⟨_, by k_updF, fun _ => by k_updF⟩⟩ _ _ _)); clear hN₉; (try dsimp only at N₉); cases hes₉)
      | ((with_reducible show wpAny _ _ (call (Value.ref 327) _) _ _ _); apply markers_deleted; (case hk => first | exact rfl | assumption); (case B => k_asm); (case F => k_asm); (case X => k_asm); (case N => k_asm); (case T => k_asm); (case hdp => ktr_room); (case hun => units_room); (case ks => lcg_sub); (case hrw => assumption); (case hd1 => assumption); (case hd2 => assumption); (case hd3 => assumption); (case hd4 => assumption); k_whole; intro h₉ tk₉ F₉ N₉; skip)
      | ((with_reducible show wpAny _ _ (call (Value.ref 549) _) _ _ _); apply hung_out; (case hk => first | exact rfl | assumption); (case B => k_asm); (case F => k_asm); (case X => k_asm); (case N => k_asm); (case T => k_asm); (case hdp => ktr_room); (case hun => units_room); (case ks => lcg_sub); (case hv => first | assumption | exact BufEs.mk ..); k_whole; intro h₉ tk₉ F₉ N₉; skip)
      | ((with_reducible show wpAny _ _ (call (Value.ref 528) _) _ _ _); apply tell_behind; (case hk => first | exact rfl | assumption); (case B => k_asm); (case F => k_asm); (case X => k_asm); (case N => k_asm); (case T => k_asm); (case hdp => ktr_room); (case hun => units_room); (case ks => lcg_sub); (case ks' => lcg_sub); (case hv => first | assumption | exact BufEs.mk ..); (case ho => assumption); k_whole; intro h₉ tk₉ es₉ hes₉ F₉ hN₉; (have N₉ := hN₉ _ (updF_done (by k_updF) _)); clear hN₉; (try dsimp only at N₉); cases hes₉)
      ); (try dsimp only); (try k_fold))
    | (k_unfold; (try dsimp only)) | (k_end; wrow_close) | walk1 | (dsimp only; walk1) | (leave1; walk_say "STEP leave1"; try dsimp only) | fail "no step"))
  all_goals (try dsimp only)
  all_goals (
    rename GapHas _ _ _ _ => hg9
    rename GapEs _ _ _ _ _ => he9
    rename IntsAre _ _ => hi9
    rename BufEs _ _ _ _ _ _ _ => hb9
    refine leaveK_ (by k_asm) (by k_asm) ?_
    intro kF kN hkept
    refine ret _ _ _ _ _ _ _ _ _ _ _ _ (by assumption) (by assumption) hb9 he9 hi9 (by assumption) hg9 kF (fun news' hn => news_done N ks ks' (mods' := [(bd, dictOf _ 20), (gd', dictOf _ 4), (ce, listOf (List.toArray _) _)]) (news_sub kN (by lcg_sub)) hkept hn))

set_option maxHeartbeats 8000000 in
theorem buf_insert_at {bf bd gp gd' ce mk md rw ls : Addr} {pt bv zv : Int} {es : List DictEntry} {cd : Addr} {ges : List DictEntry} {c c9 c8 : Nat} {rm gs ge : Int} {ys zs : List Value} {ns tx ms : List Int} {hh : Int} {th : Tok} {orw : Obj} {p : Int} {tp : Tok}
    (B : Below A₀ base outer h₀) (F : Fr h₀ L s.heap m) (X : (hd.heap_39 w.params).In h₀) (N : News h₀ L s.heap news) (T : Top hd.view_39 loose mean mg mb h₀) (hk : cs.kind = .function) (hdp : dp + 14 < recursionLimit) (hun : un + 340 < cLine)
    (hv : BufEs gp mk ls pt bv zv es) (ho : Asc [bd, bf, gd', gp, ce, md, mk, rw, ls]) (hge : GapEs ges rm ce gs ge) (hi : IntsAre ys ns) (hlen : ns.length ≤ 100) (hrm : 0 ≤ rm) (hrm1 : rm ≤ 100) (hg : GapHas ns gs ge tx) (hrw : (rw == sysModules) = false) (hd1 : orw.IsDictOf (strKind PySem.Challenge.rw_oj0027_01.row.prog w) []) (hd2 : orw.IsDictOf (intKind PySem.Challenge.rw_oj0027_01.row.prog w) []) (hd3 : PyProof.V.FlatPairs PyData.int [] []) (hd4 : PyProof.V.FlatPairs PyData.str [] []) (hi2 : IntsAre zs ms) (hms : ms.length ≤ 100) (hcd : @LT.lt Nat _ cd bd ∨ @LT.lt Nat _ ls cd) (hbv : bv = 1) (hzv : zv = tx.length + 1) (hp0 : 1 ≤ p) (hp : p ≤ tx.length + 1)
    (ks : ∀ q ∈ [(bd, dictOf es 20), (gd', dictOf ges 4), (ce, listOf ys.toArray c)], q ∈ news) (ks' : ∀ q ∈ [(bf, instObj 478 bd), (gp, instObj 267 gd'), (cd, listOf zs.toArray c9), (ls, listOf #[] c8), (mk, instObj 337 md), (md, dictOf [⟨hh, .str (Str.ofString "rows") th, .ref rw⟩] 1), (rw, orw)], q ∈ news)
    (ret : ∀ h' tk' es' pt' zv' ges' gs' ge' ws rs c' tx', tx' = tx.take (p - 1).toNat ++ ms ++ tx.drop (p - 1).toNat → zv' = (tx'.length : Int) + 1 → BufEs gp mk ls pt' 1 zv' es' → GapEs ges' rm ce gs' ge' → IntsAre ws rs → (rs.length : Int) ≤ ns.length + ms.length + rm → GapHas rs gs' ge' tx' → Fr h₀ L h' m → (∀ news', (∀ q ∈ news', q ∈ [(bd, dictOf es' 20), (gd', dictOf ges' 4), (ce, listOf (List.toArray ws) c')] ∨ (q ∈ news ∧ ∀ r ∈ [(bd, dictOf es 20), (gd', dictOf ges 4), (ce, listOf ys.toArray c)], q.1 ≠ r.1)) → News h₀ L h' news') → Q .none { s with heap := h', toks := tk' }) :
    wpAny (model PySem.Challenge.rw_oj0027_01.row.prog w) (ktrTop dp un gd cn cs L a ccd cl outer) (call (.ref 571) [.ref bf, .int p tp, .ref cd]) Q E s := by
  refine wpAny_call ?_
  have kss : ∀ q ∈ [(bd, dictOf es 20), (gd', dictOf ges 4), (ce, listOf ys.toArray c)] ++ [(bf, instObj 478 bd), (gp, instObj 267 gd'), (cd, listOf zs.toArray c9), (ls, listOf #[] c8), (mk, instObj 337 md), (md, dictOf [⟨hh, .str (Str.ofString "rows") th, .ref rw⟩] 1), (rw, orw)], q ∈ news := fun q hq => (List.mem_append.mp hq).elim (ks q) (ks' q)
  dsimp only [List.cons_append, List.nil_append] at kss
  walk_at "MINE enter"
  clear B X F T
  cases hv
  subst hbv
  (repeat' (first
    | (k_here; k_dflt ((with_reducible show wpAny _ _ (call (Value.ref _) _) _ _ _); first
      | ((with_reducible show wpAny _ _ (call (Value.ref 563) _) _ _ _); apply put_in; (case hk => first | exact rfl | assumption); (case B => k_asm); (case F => k_asm); (case X => k_asm); (case N => k_asm); (case T => k_asm); (case hdp => ktr_room); (case hun => units_room); (case ks' => lcg_sub); (case ks => lcg_sub); (case hv => first | assumption | exact BufEs.mk ..); (case hge => assumption); (case hg => assumption); (case hi => assumption); (case ho => assumption); (case hlen => walk_at "MINE om"); (case hrm => walk_at "MINE om"); (case hrm1 => walk_at "MINE om"); (case hrw => assumption); (case hd1 => assumption); (case hd2 => assumption); (case hd3 => assumption); (case hd4 => assumption); (case hi2 => assumption); (case hms => walk_at "MINE om"); (case hcd => assumption); (case hbv => first | exact rfl | assumption); (case hzv => assumption); (case hp0 => walk_at "MINE om"); (case hp => walk_at "MINE om"); k_whole; intro h₉ tk₉ es₉ pt₉ zv₉ ges₉ gs₉ ge₉ ws₉ rs₉ c₉ tx₉ htx₉ hzv₉ hes₉ hge₉ hi₉ hl₉ hg₉ F₉ hN₉; (have N₉ := hN₉ _ (upd3_done ⟨_, by k_updF, fun _ => ⟨_, by k_updF, fun _ => by k_updF⟩⟩ _ _ _)); clear hN₉; (try dsimp only at N₉))
      | ((with_reducible show wpAny _ _ (call (Value.ref 507) _) _ _ _); apply need_writable; (case hk => first | exact rfl | assumption); (case B => k_asm); (case F => k_asm); (case X => k_asm); (case N => k_asm); (case T => k_asm); (case hdp => ktr_room); (case hun => units_room); (case ks => lcg_sub); (case hv => first | assumption | exact BufEs.mk ..); k_whole; intro h₉ tk₉ F₉ N₉; skip)
      | ((with_reducible show wpAny _ _ (call (Value.ref 514) _) _ _ _); apply reached_call; (case hk => first | exact rfl | assumption); (case B => k_asm); (case F => k_asm); (case X => k_asm); (case N => k_asm); (case T => k_asm); (case hdp => ktr_room); (case hun => units_room); (case ks => lcg_sub); (case hv => first | assumption | exact BufEs.mk ..); (case hpq => walk_at "MINE om"); (case hb => walk_at "MINE om"); (case hz => walk_at "MINE om"); k_whole; intro T₉ u1₉ u2₉ c₉ h₉ tk₉ hap₉ F₉ N₉; skip)
      | ((with_reducible show wpAny _ _ (call (Value.ref 521) _) _ _ _); apply tell_ahead; (case hk => first | exact rfl | assumption); (case B => k_asm); (case F => k_asm); (case X => k_asm); (case N => k_asm); (case T => k_asm); (case hdp => ktr_room); (case hun => units_room); (case ks => lcg_sub); (case hv => first | assumption | exact BufEs.mk ..); k_whole; intro h₉ tk₉ F₉ N₉; skip)
      | ((with_reducible show wpAny _ _ (call (Value.ref 535) _) _ _ _); apply text_out; (case hk => first | exact rfl | assumption); (case B => k_asm); (case F => k_asm); (case X => k_asm); (case N => k_asm); (case T => k_asm); (case hdp => ktr_room); (case hun => units_room); (case ks' => lcg_sub); (case ks => lcg_sub); (case hv => first | assumption | exact BufEs.mk ..); (case hge => assumption); (case hg => assumption); (case hi => assumption); (case ho => assumption); (case hlen => walk_at "MINE om"); (case hrm => walk_at "MINE om"); (case hrm1 => walk_at "MINE om"); (case hp0 => walk_at "MINE om"); (case hpq => walk_at "MINE om"); (case hq => walk_at "MINE om"); k_whole; intro v₉ h₉ tk₉ es₉ pt₉ ges₉ gs₉ ge₉ ws₉ rs₉ c₉ hes₉ hge₉ hi₉ hl₉ hg₉ F₉ hN₉; (have N₉ := hN₉ _ (upd3_done ⟨_, by k_updF, fun _ => ⟨_, by k_updF, fun _ => by k_updF⟩⟩ _ _ _)); clear hN₉; (try dsimp only at N₉); cases hes₉)
      | ((with_reducible show wpAny _ _ (call (Value.ref 327) _) _ _ _); apply markers_deleted; (case hk => first | exact rfl | assumption); (case B => k_asm); (case F => k_asm); (case X => k_asm); (case N => k_asm); (case T => k_asm); (case hdp => ktr_room); (case hun => units_room); (case ks => lcg_sub); (case hrw => assumption); (case hd1 => assumption); (case hd2 => assumption); (case hd3 => assumption); (case hd4 => assumption); k_whole; intro h₉ tk₉ F₉ N₉; skip)
      | ((with_reducible show wpAny _ _ (call (Value.ref 549) _) _ _ _); apply hung_out; (case hk => first | exact rfl | assumption); (case B => k_asm); (case F => k_asm); (case X => k_asm); (case N => k_asm); (case T => k_asm); (case hdp => ktr_room); (case hun => units_room); (case ks => lcg_sub); (case hv => first | assumption | exact BufEs.mk ..); k_whole; intro h₉ tk₉ F₉ N₉; skip)
      | ((with_reducible show wpAny _ _ (call (Value.ref 528) _) _ _ _); apply tell_behind; (case hk => first | exact rfl | assumption); (case B => k_asm); (case F => k_asm); (case X => k_asm); (case N => k_asm); (case T => k_asm); (case hdp => ktr_room); (case hun => units_room); (case ks => lcg_sub); (case ks' => lcg_sub); (case hv => first | assumption | exact BufEs.mk ..); (case ho => assumption); k_whole; intro h₉ tk₉ es₉ hes₉ F₉ hN₉; (have N₉ := hN₉ _ (updF_done (by k_updF) _)); clear hN₉; (try dsimp only at N₉); cases hes₉)
      ); (try dsimp only); (try k_fold))
    | (k_unfold; (try dsimp only)) | (k_end; wrow_close) | walk1 | (dsimp only; walk1) | (leave1; walk_say "STEP leave1"; try dsimp only) | fail "no step"))
  all_goals (try dsimp only)
  all_goals (
    rename GapHas _ _ _ _ => hg9
    rename GapEs _ _ _ _ _ => he9
    rename IntsAre _ _ => hi9
    rename BufEs _ _ _ _ _ _ _ => hb9
    refine leaveK_ (by k_asm) (by k_asm) ?_
    intro kF kN hkept
    refine ret _ _ _ _ _ _ _ _ _ _ _ _ (by assumption) (by assumption) hb9 he9 hi9 (by assumption) hg9 kF (fun news' hn => news_done N ks ks' (mods' := [(bd, dictOf _ 20), (gd', dictOf _ 4), (ce, listOf (List.toArray _) _)]) (news_sub kN (by lcg_sub)) hkept hn))

set_option maxHeartbeats 8000000 in
theorem buf_delete {bf bd gp gd' ce mk md rw ls : Addr} {pt bv zv : Int} {es : List DictEntry} {ges : List DictEntry} {c c8 : Nat} {rm gs ge : Int} {ys : List Value} {ns tx : List Int} {hh : Int} {th : Tok} {orw : Obj} {p q : Int} {tp tq : Tok}
    (B : Below A₀ base outer h₀) (F : Fr h₀ L s.heap m) (X : (hd.heap_39 w.params).In h₀) (N : News h₀ L s.heap news) (T : Top hd.view_39 loose mean mg mb h₀) (hk : cs.kind = .function) (hdp : dp + 14 < recursionLimit) (hun : un + 340 < cLine)
    (hv : BufEs gp mk ls pt bv zv es) (ho : Asc [bd, bf, gd', gp, ce, md, mk, rw, ls]) (hge : GapEs ges rm ce gs ge) (hi : IntsAre ys ns) (hlen : ns.length ≤ 100) (hrm : 0 ≤ rm) (hrm1 : rm ≤ 100) (hg : GapHas ns gs ge tx) (hrw : (rw == sysModules) = false) (hd1 : orw.IsDictOf (strKind PySem.Challenge.rw_oj0027_01.row.prog w) []) (hd2 : orw.IsDictOf (intKind PySem.Challenge.rw_oj0027_01.row.prog w) []) (hd3 : PyProof.V.FlatPairs PyData.int [] []) (hd4 : PyProof.V.FlatPairs PyData.str [] []) (hbv : bv = 1) (hzv : zv = tx.length + 1) (hp0 : 1 ≤ p) (hpq : p < q) (hq : q ≤ tx.length + 1)
    (ks : ∀ q ∈ [(bd, dictOf es 20), (gd', dictOf ges 4), (ce, listOf ys.toArray c)], q ∈ news) (ks' : ∀ q ∈ [(bf, instObj 478 bd), (gp, instObj 267 gd'), (ls, listOf #[] c8), (mk, instObj 337 md), (md, dictOf [⟨hh, .str (Str.ofString "rows") th, .ref rw⟩] 1), (rw, orw)], q ∈ news)
    (ret : ∀ v h' tk' es' pt' zv' ges' gs' ge' ws rs c' tx', tx' = tx.take (p - 1).toNat ++ tx.drop (q - 1).toNat → zv' = (tx'.length : Int) + 1 → BufEs gp mk ls pt' 1 zv' es' → GapEs ges' rm ce gs' ge' → IntsAre ws rs → (rs.length : Int) ≤ ns.length → GapHas rs gs' ge' tx' → Fr h₀ L h' m → (∀ news', (∀ q ∈ news', q ∈ [(bd, dictOf es' 20), (gd', dictOf ges' 4), (ce, listOf (List.toArray ws) c')] ∨ (q ∈ news ∧ ∀ r ∈ [(bd, dictOf es 20), (gd', dictOf ges 4), (ce, listOf ys.toArray c)], q.1 ≠ r.1)) → News h₀ L h' news') → Q v { s with heap := h', toks := tk' }) :
    wpAny (model PySem.Challenge.rw_oj0027_01.row.prog w) (ktrTop dp un gd cn cs L a ccd cl outer) (call (.ref 586) [.ref bf, .int p tp, .int q tq]) Q E s := by
  refine wpAny_call ?_
  have kss : ∀ q ∈ [(bd, dictOf es 20), (gd', dictOf ges 4), (ce, listOf ys.toArray c)] ++ [(bf, instObj 478 bd), (gp, instObj 267 gd'), (ls, listOf #[] c8), (mk, instObj 337 md), (md, dictOf [⟨hh, .str (Str.ofString "rows") th, .ref rw⟩] 1), (rw, orw)], q ∈ news := fun q hq => (List.mem_append.mp hq).elim (ks q) (ks' q)
  dsimp only [List.cons_append, List.nil_append] at kss
  walk_at "MINE enter"
  clear B X F T
  cases hv
  subst hbv
  (repeat' (first
    | (k_here; k_dflt ((with_reducible show wpAny _ _ (call (Value.ref _) _) _ _ _); first
      | ((with_reducible show wpAny _ _ (call (Value.ref 563) _) _ _ _); apply put_in; (case hk => first | exact rfl | assumption); (case B => k_asm); (case F => k_asm); (case X => k_asm); (case N => k_asm); (case T => k_asm); (case hdp => ktr_room); (case hun => units_room); (case ks' => lcg_sub); (case ks => lcg_sub); (case hv => first | assumption | exact BufEs.mk ..); (case hge => assumption); (case hg => assumption); (case hi => assumption); (case ho => assumption); (case hlen => walk_at "MINE om"); (case hrm => walk_at "MINE om"); (case hrm1 => walk_at "MINE om"); (case hrw => assumption); (case hd1 => assumption); (case hd2 => assumption); (case hd3 => assumption); (case hd4 => assumption); (case hi2 => assumption); (case hms => walk_at "MINE om"); (case hcd => assumption); (case hbv => first | exact rfl | assumption); (case hzv => assumption); (case hp0 => walk_at "MINE om"); (case hp => walk_at "MINE om"); k_whole; intro h₉ tk₉ es₉ pt₉ zv₉ ges₉ gs₉ ge₉ ws₉ rs₉ c₉ tx₉ htx₉ hzv₉ hes₉ hge₉ hi₉ hl₉ hg₉ F₉ hN₉; (have N₉ := hN₉ _ (upd3_done ⟨_, by k_updF, fun _ => ⟨_, by k_updF, fun _ => by k_updF⟩⟩ _ _ _)); clear hN₉; (try dsimp only at N₉))
      | ((with_reducible show wpAny _ _ (call (Value.ref 507) _) _ _ _); apply need_writable; (case hk => first | exact rfl | assumption); (case B => k_asm); (case F => k_asm); (case X => k_asm); (case N => k_asm); (case T => k_asm); (case hdp => ktr_room); (case hun => units_room); (case ks => lcg_sub); (case hv => first | assumption | exact BufEs.mk ..); k_whole; intro h₉ tk₉ F₉ N₉; skip)
      | ((with_reducible show wpAny _ _ (call (Value.ref 514) _) _ _ _); apply reached_call; (case hk => first | exact rfl | assumption); (case B => k_asm); (case F => k_asm); (case X => k_asm); (case N => k_asm); (case T => k_asm); (case hdp => ktr_room); (case hun => units_room); (case ks => lcg_sub); (case hv => first | assumption | exact BufEs.mk ..); (case hpq => walk_at "MINE om"); (case hb => walk_at "MINE om"); (case hz => walk_at "MINE om"); k_whole; intro T₉ u1₉ u2₉ c₉ h₉ tk₉ hap₉ F₉ N₉; skip)
      | ((with_reducible show wpAny _ _ (call (Value.ref 521) _) _ _ _); apply tell_ahead; (case hk => first | exact rfl | assumption); (case B => k_asm); (case F => k_asm); (case X => k_asm); (case N => k_asm); (case T => k_asm); (case hdp => ktr_room); (case hun => units_room); (case ks => lcg_sub); (case hv => first | assumption | exact BufEs.mk ..); k_whole; intro h₉ tk₉ F₉ N₉; skip)
      | ((with_reducible show wpAny _ _ (call (Value.ref 535) _) _ _ _); apply text_out; (case hk => first | exact rfl | assumption); (case B => k_asm); (case F => k_asm); (case X => k_asm); (case N => k_asm); (case T => k_asm); (case hdp => ktr_room); (case hun => units_room); (case ks' => lcg_sub); (case ks => lcg_sub); (case hv => first | assumption | exact BufEs.mk ..); (case hge => assumption); (case hg => assumption); (case hi => assumption); (case ho => assumption); (case hlen => walk_at "MINE om"); (case hrm => walk_at "MINE om"); (case hrm1 => walk_at "MINE om"); (case hp0 => walk_at "MINE om"); (case hpq => walk_at "MINE om"); (case hq => walk_at "MINE om"); k_whole; intro v₉ h₉ tk₉ es₉ pt₉ ges₉ gs₉ ge₉ ws₉ rs₉ c₉ hes₉ hge₉ hi₉ hl₉ hg₉ F₉ hN₉; (have N₉ := hN₉ _ (upd3_done ⟨_, by k_updF, fun _ => ⟨_, by k_updF, fun _ => by k_updF⟩⟩ _ _ _)); clear hN₉; (try dsimp only at N₉); cases hes₉)
      | ((with_reducible show wpAny _ _ (call (Value.ref 327) _) _ _ _); apply markers_deleted; (case hk => first | exact rfl | assumption); (case B => k_asm); (case F => k_asm); (case X => k_asm); (case N => k_asm); (case T => k_asm); (case hdp => ktr_room); (case hun => units_room); (case ks => lcg_sub); (case hrw => assumption); (case hd1 => assumption); (case hd2 => assumption); (case hd3 => assumption); (case hd4 => assumption); k_whole; intro h₉ tk₉ F₉ N₉; skip)
      | ((with_reducible show wpAny _ _ (call (Value.ref 549) _) _ _ _); apply hung_out; (case hk => first | exact rfl | assumption); (case B => k_asm); (case F => k_asm); (case X => k_asm); (case N => k_asm); (case T => k_asm); (case hdp => ktr_room); (case hun => units_room); (case ks => lcg_sub); (case hv => first | assumption | exact BufEs.mk ..); k_whole; intro h₉ tk₉ F₉ N₉; skip)
      | ((with_reducible show wpAny _ _ (call (Value.ref 528) _) _ _ _); apply tell_behind; (case hk => first | exact rfl | assumption); (case B => k_asm); (case F => k_asm); (case X => k_asm); (case N => k_asm); (case T => k_asm); (case hdp => ktr_room); (case hun => units_room); (case ks => lcg_sub); (case ks' => lcg_sub); (case hv => first | assumption | exact BufEs.mk ..); (case ho => assumption); k_whole; intro h₉ tk₉ es₉ hes₉ F₉ hN₉; (have N₉ := hN₉ _ (updF_done (by k_updF) _)); clear hN₉; (try dsimp only at N₉); cases hes₉)
      ); (try dsimp only); (try k_fold))
    | (k_unfold; (try dsimp only)) | (k_end; wrow_close) | walk1 | (dsimp only; walk1) | (leave1; walk_say "STEP leave1"; try dsimp only) | fail "no step"))
  all_goals (try dsimp only)
  · exact absurd (by assumption : p = q) (by walk_at "MINE om")
  · rename GapHas _ _ _ _ => hg9
    rename GapEs _ _ _ _ _ => he9
    rename IntsAre _ _ => hi9
    refine leaveK_ (by k_asm) (by k_asm) ?_
    intro kF kN hkept
    refine ret _ _ _ _ _ _ _ _ _ _ _ _ _ rfl ?_ (.mk ..) he9 hi9 (by walk_at "MINE om") hg9 kF (fun news' hn => news_done N ks ks' (mods' := [(bd, dictOf _ 20), (gd', dictOf _ 4), (ce, listOf (List.toArray _) _)]) (news_sub kN (by lcg_sub)) hkept hn)
    simp only [List.length_append, List.length_take, List.length_drop]
    walk_at "MINE om"
end
end PartBuf4

section PartBuf5
/-- the dict of a TextView upon a buffer -/
def TextEs (bf : Addr) (es : List DictEntry) : Prop := ∃ h1 t1 v1 h2 t2 v2 h3 t3, es = [⟨h1, .str (Str.ofString "codes") t1, v1⟩, ⟨h2, .str (Str.ofString "first") t2, v2⟩, ⟨h3, .str (Str.ofString "text") t3, .ref bf⟩]

theorem window_len {tx : List Int} {bv zv : Int} (hb : 1 ≤ bv) (hbz : bv ≤ zv) (hz : zv ≤ tx.length + 1) : (((tx.drop (bv - 1).toNat).take (zv - bv).toNat).length : Int) = zv - bv := by
  rw [part_slice hb hbz hz, part_len (Int.sub_nonneg_of_le hb) (less_one bv hbz) (by walk_at "MINE om")]
  walk_at "MINE om"
theorem window_lo {tx : List Int} {bv zv p : Int} (h : p < bv) : -1 = codeAt ((tx.drop (bv - 1).toNat).take (zv - bv).toNat) bv p := by
  unfold codeAt; rw [if_neg (by walk_at "MINE om")]
theorem window_hi {tx : List Int} {bv zv p : Int} (hb : 1 ≤ bv) (hbz : bv ≤ zv) (hz : zv ≤ tx.length + 1) (h : zv ≤ p) : -1 = codeAt ((tx.drop (bv - 1).toNat).take (zv - bv).toNat) bv p := by
  have := window_len hb hbz hz
  unfold codeAt; rw [if_neg (by walk_at "MINE om")]
theorem window_in {tx : List Int} {bv zv p : Int} (hb : 1 ≤ bv) (hbz : bv ≤ zv) (hz : zv ≤ tx.length + 1) (h1 : bv ≤ p) (h2 : p < zv) : tx.getD (p - 1).toNat 0 = codeAt ((tx.drop (bv - 1).toNat).take (zv - bv).toNat) bv p := by
  have := window_len hb hbz hz
  unfold codeAt; rw [if_pos (by walk_at "MINE om")]
  rw [List.getD_eq_getElem?_getD, List.getD_eq_getElem?_getD, List.getElem?_take_of_lt (by walk_at "MINE om"), List.getElem?_drop]
  congr 2
  walk_at "MINE om"

section
variable {w : World} {dp un : Nat} {gd : Option (List Code)} {cn : Str} {cs : Scope} {L a : Addr} {ccd : Value} {cl : List (Str × Addr)} {outer : List Env} {A₀ : Around} {base h₀ : Heap} {m mg mb : Str → Option Value} {news : List (Addr × Obj)} {s : Shared} {loose : List Str} {mean : ExcName → Option Value} {Q E : Value → Shared → Prop}

set_option maxHeartbeats 8000000 in
theorem buf_begin {bf bd gp mk ls : Addr} {pt bv zv : Int} {es : List DictEntry}
    (B : Below A₀ base outer h₀) (F : Fr h₀ L s.heap m) (X : (hd.heap_39 w.params).In h₀) (N : News h₀ L s.heap news) (T : Top hd.view_39 loose mean mg mb h₀) (hk : cs.kind = .function) (hdp : dp + 4 < recursionLimit) (hun : un + 100 < cLine)
    (hv : BufEs gp mk ls pt bv zv es)
    (ks : ∀ q ∈ [(bf, instObj 478 bd), (bd, dictOf es 20)], q ∈ news)
    (ret : ∀ t h' tk', Fr h₀ L h' m → News h₀ L h' news → Q (.int bv t) { s with heap := h', toks := tk' }) :
    wpAny (model PySem.Challenge.rw_oj0027_01.row.prog w) (ktrTop dp un gd cn cs L a ccd cl outer) (call (.ref 412) [.ref bf]) Q E s := by
  refine wpAny_call ?_
  walk_at "MINE enter"
  clear B X F T
  cases hv
  (repeat' (first
    | (k_here; k_dflt ((with_reducible show wpAny _ _ (call (Value.ref _) _) _ _ _); first
      | ((with_reducible show wpAny _ _ (call (Value.ref 201) _) _ _ _); apply gap_size; (case hk => first | exact rfl | assumption); (case B => k_asm); (case F => k_asm); (case X => k_asm); (case N => k_asm); (case T => k_asm); (case hdp => ktr_room); (case hun => units_room); (case ks => lcg_sub); (case hv => assumption); (case hg => assumption); (case hi => assumption); (case hlen => walk_at "MINE om"); k_whole; intro t₉ h₉ tk₉ F₉ N₉; skip)
      | ((with_reducible show wpAny _ _ (call (Value.ref 208) _) _ _ _); apply gap_code; (case hk => first | exact rfl | assumption); (case B => k_asm); (case F => k_asm); (case X => k_asm); (case N => k_asm); (case T => k_asm); (case hdp => ktr_room); (case hun => units_room); (case ks => lcg_sub); (case hv => assumption); (case hg => assumption); (case hi => assumption); (case hlen => walk_at "MINE om"); (case h0 => walk_at "MINE om"); (case hp => walk_at "MINE om"); k_whole; intro t₉ h₉ tk₉ F₉ N₉; skip)
      | ((with_reducible show wpAny _ _ (call (Value.ref 215) _) _ _ _); apply gap_codes; (case hk => first | exact rfl | assumption); (case B => k_asm); (case F => k_asm); (case X => k_asm); (case N => k_asm); (case T => k_asm); (case hdp => ktr_room); (case hun => units_room); (case ks => lcg_sub); (case hv => assumption); (case hg => assumption); (case hi => assumption); (case hlen => walk_at "MINE om"); (case h0 => walk_at "MINE om"); (case hpq => walk_at "MINE om"); (case hq => walk_at "MINE om"); k_whole; intro D₉ ws₉ c₉ h₉ tk₉ hi₉ hap₉ F₉ N₉; skip)
      ); (try dsimp only); (try k_fold))
    | (k_unfold; (try dsimp only)) | (k_end; wrow_close) | walk1 | (dsimp only; walk1) | (leave1; walk_say "STEP leave1"; try dsimp only) | fail "no step"))
  all_goals (try dsimp only)
  all_goals (
    refine leaveK_ (by k_asm) (by k_asm) ?_
    intro kF kN hkept
    refine ret_int (ret _ _ _ kF (news_same N ks (news_sub kN (by lcg_sub)) hkept)) ?_)
  all_goals rfl

set_option maxHeartbeats 8000000 in
theorem buf_end {bf bd gp mk ls : Addr} {pt bv zv : Int} {es : List DictEntry}
    (B : Below A₀ base outer h₀) (F : Fr h₀ L s.heap m) (X : (hd.heap_39 w.params).In h₀) (N : News h₀ L s.heap news) (T : Top hd.view_39 loose mean mg mb h₀) (hk : cs.kind = .function) (hdp : dp + 4 < recursionLimit) (hun : un + 100 < cLine)
    (hv : BufEs gp mk ls pt bv zv es)
    (ks : ∀ q ∈ [(bf, instObj 478 bd), (bd, dictOf es 20)], q ∈ news)
    (ret : ∀ t h' tk', Fr h₀ L h' m → News h₀ L h' news → Q (.int zv t) { s with heap := h', toks := tk' }) :
    wpAny (model PySem.Challenge.rw_oj0027_01.row.prog w) (ktrTop dp un gd cn cs L a ccd cl outer) (call (.ref 419) [.ref bf]) Q E s := by
  refine wpAny_call ?_
  walk_at "MINE enter"
  clear B X F T
  cases hv
  (repeat' (first
    | (k_here; k_dflt ((with_reducible show wpAny _ _ (call (Value.ref _) _) _ _ _); first
      | ((with_reducible show wpAny _ _ (call (Value.ref 201) _) _ _ _); apply gap_size; (case hk => first | exact rfl | assumption); (case B => k_asm); (case F => k_asm); (case X => k_asm); (case N => k_asm); (case T => k_asm); (case hdp => ktr_room); (case hun => units_room); (case ks => lcg_sub); (case hv => assumption); (case hg => assumption); (case hi => assumption); (case hlen => walk_at "MINE om"); k_whole; intro t₉ h₉ tk₉ F₉ N₉; skip)
      | ((with_reducible show wpAny _ _ (call (Value.ref 208) _) _ _ _); apply gap_code; (case hk => first | exact rfl | assumption); (case B => k_asm); (case F => k_asm); (case X => k_asm); (case N => k_asm); (case T => k_asm); (case hdp => ktr_room); (case hun => units_room); (case ks => lcg_sub); (case hv => assumption); (case hg => assumption); (case hi => assumption); (case hlen => walk_at "MINE om"); (case h0 => walk_at "MINE om"); (case hp => walk_at "MINE om"); k_whole; intro t₉ h₉ tk₉ F₉ N₉; skip)
      | ((with_reducible show wpAny _ _ (call (Value.ref 215) _) _ _ _); apply gap_codes; (case hk => first | exact rfl | assumption); (case B => k_asm); (case F => k_asm); (case X => k_asm); (case N => k_asm); (case T => k_asm); (case hdp => ktr_room); (case hun => units_room); (case ks => lcg_sub); (case hv => assumption); (case hg => assumption); (case hi => assumption); (case hlen => walk_at "MINE om"); (case h0 => walk_at "MINE om"); (case hpq => walk_at "MINE om"); (case hq => walk_at "MINE om"); k_whole; intro D₉ ws₉ c₉ h₉ tk₉ hi₉ hap₉ F₉ N₉; skip)
      ); (try dsimp only); (try k_fold))
    | (k_unfold; (try dsimp only)) | (k_end; wrow_close) | walk1 | (dsimp only; walk1) | (leave1; walk_say "STEP leave1"; try dsimp only) | fail "no step"))
  all_goals (try dsimp only)
  all_goals (
    refine leaveK_ (by k_asm) (by k_asm) ?_
    intro kF kN hkept
    refine ret_int (ret _ _ _ kF (news_same N ks (news_sub kN (by lcg_sub)) hkept)) ?_)
  all_goals rfl

set_option maxHeartbeats 8000000 in
theorem buf_size {bf bd gp gd' ce mk ls : Addr} {pt bv zv : Int} {es : List DictEntry} {ges : List DictEntry} {c : Nat} {rm gs ge : Int} {ys : List Value} {ns tx : List Int} 
    (B : Below A₀ base outer h₀) (F : Fr h₀ L s.heap m) (X : (hd.heap_39 w.params).In h₀) (N : News h₀ L s.heap news) (T : Top hd.view_39 loose mean mg mb h₀) (hk : cs.kind = .function) (hdp : dp + 8 < recursionLimit) (hun : un + 140 < cLine)
    (hv : BufEs gp mk ls pt bv zv es) (hge : GapEs ges rm ce gs ge) (hi : IntsAre ys ns) (hlen : ns.length ≤ 1000) (hg : GapHas ns gs ge tx)
    (ks : ∀ q ∈ [(bf, instObj 478 bd), (bd, dictOf es 20), (gp, instObj 267 gd'), (gd', dictOf ges 4), (ce, listOf ys.toArray c)], q ∈ news)
    (ret : ∀ t h' tk', Fr h₀ L h' m → News h₀ L h' news → Q (.int tx.length t) { s with heap := h', toks := tk' }) :
    wpAny (model PySem.Challenge.rw_oj0027_01.row.prog w) (ktrTop dp un gd cn cs L a ccd cl outer) (call (.ref 426) [.ref bf]) Q E s := by
  refine wpAny_call ?_
  walk_at "MINE enter"
  clear B X F T
  cases hv
  have hge' := hge
  obtain ⟨h1, t1, u1, h2, t2, h3, t3, u3, h4, t4, u4, rfl⟩ := hge
  (repeat' (first
    | (k_here; k_dflt ((with_reducible show wpAny _ _ (call (Value.ref _) _) _ _ _); first
      | ((with_reducible show wpAny _ _ (call (Value.ref 201) _) _ _ _); apply gap_size; (case hk => first | exact rfl | assumption); (case B => k_asm); (case F => k_asm); (case X => k_asm); (case N => k_asm); (case T => k_asm); (case hdp => ktr_room); (case hun => units_room); (case ks => lcg_sub); (case hv => assumption); (case hg => assumption); (case hi => assumption); (case hlen => walk_at "MINE om"); k_whole; intro t₉ h₉ tk₉ F₉ N₉; skip)
      | ((with_reducible show wpAny _ _ (call (Value.ref 208) _) _ _ _); apply gap_code; (case hk => first | exact rfl | assumption); (case B => k_asm); (case F => k_asm); (case X => k_asm); (case N => k_asm); (case T => k_asm); (case hdp => ktr_room); (case hun => units_room); (case ks => lcg_sub); (case hv => assumption); (case hg => assumption); (case hi => assumption); (case hlen => walk_at "MINE om"); (case h0 => walk_at "MINE om"); (case hp => walk_at "MINE om"); k_whole; intro t₉ h₉ tk₉ F₉ N₉; skip)
      | ((with_reducible show wpAny _ _ (call (Value.ref 215) _) _ _ _); apply gap_codes; (case hk => first | exact rfl | assumption); (case B => k_asm); (case F => k_asm); (case X => k_asm); (case N => k_asm); (case T => k_asm); (case hdp => ktr_room); (case hun => units_room); (case ks => lcg_sub); (case hv => assumption); (case hg => assumption); (case hi => assumption); (case hlen => walk_at "MINE om"); (case h0 => walk_at "MINE om"); (case hpq => walk_at "MINE om"); (case hq => walk_at "MINE om"); k_whole; intro D₉ ws₉ c₉ h₉ tk₉ hi₉ hap₉ F₉ N₉; skip)
      ); (try dsimp only); (try k_fold))
    | (k_unfold; (try dsimp only)) | (k_end; wrow_close) | walk1 | (dsimp only; walk1) | (leave1; walk_say "STEP leave1"; try dsimp only) | fail "no step"))
  all_goals (try dsimp only)
  all_goals (
    refine leaveK_ (by k_asm) (by k_asm) ?_
    intro kF kN hkept
    refine ret_int (ret _ _ _ kF (news_same N ks (news_sub kN (by lcg_sub)) hkept)) ?_)
  all_goals rfl

set_option maxHeartbeats 8000000 in
theorem buf_code {bf bd gp gd' ce mk ls : Addr} {pt bv zv : Int} {es : List DictEntry} {ges : List DictEntry} {c : Nat} {rm gs ge : Int} {ys : List Value} {ns tx : List Int} {p : Int} {tp : Tok}
    (B : Below A₀ base outer h₀) (F : Fr h₀ L s.heap m) (X : (hd.heap_39 w.params).In h₀) (N : News h₀ L s.heap news) (T : Top hd.view_39 loose mean mg mb h₀) (hk : cs.kind = .function) (hdp : dp + 8 < recursionLimit) (hun : un + 140 < cLine)
    (hv : BufEs gp mk ls pt bv zv es) (hge : GapEs ges rm ce gs ge) (hi : IntsAre ys ns) (hlen : ns.length ≤ 1000) (hg : GapHas ns gs ge tx) (hb : 1 ≤ bv) (hbz : bv ≤ zv) (hz : zv ≤ tx.length + 1)
    (ks : ∀ q ∈ [(bf, instObj 478 bd), (bd, dictOf es 20), (gp, instObj 267 gd'), (gd', dictOf ges 4), (ce, listOf ys.toArray c)], q ∈ news)
    (ret : ∀ t h' tk', Fr h₀ L h' m → News h₀ L h' news → Q (.int (codeAt ((tx.drop (bv - 1).toNat).take (zv - bv).toNat) bv p) t) { s with heap := h', toks := tk' }) :
    wpAny (model PySem.Challenge.rw_oj0027_01.row.prog w) (ktrTop dp un gd cn cs L a ccd cl outer) (call (.ref 433) [.ref bf, .int p tp]) Q E s := by
  refine wpAny_call ?_
  walk_at "MINE enter"
  clear B X F T
  cases hv
  have hge' := hge
  obtain ⟨h1, t1, u1, h2, t2, h3, t3, u3, h4, t4, u4, rfl⟩ := hge
  (repeat' (first
    | (k_here; k_dflt ((with_reducible show wpAny _ _ (call (Value.ref _) _) _ _ _); first
      | ((with_reducible show wpAny _ _ (call (Value.ref 201) _) _ _ _); apply gap_size; (case hk => first | exact rfl | assumption); (case B => k_asm); (case F => k_asm); (case X => k_asm); (case N => k_asm); (case T => k_asm); (case hdp => ktr_room); (case hun => units_room); (case ks => lcg_sub); (case hv => assumption); (case hg => assumption); (case hi => assumption); (case hlen => walk_at "MINE om"); k_whole; intro t₉ h₉ tk₉ F₉ N₉; skip)
      | ((with_reducible show wpAny _ _ (call (Value.ref 208) _) _ _ _); apply gap_code; (case hk => first | exact rfl | assumption); (case B => k_asm); (case F => k_asm); (case X => k_asm); (case N => k_asm); (case T => k_asm); (case hdp => ktr_room); (case hun => units_room); (case ks => lcg_sub); (case hv => assumption); (case hg => assumption); (case hi => assumption); (case hlen => walk_at "MINE om"); (case h0 => walk_at "MINE om"); (case hp => walk_at "MINE om"); k_whole; intro t₉ h₉ tk₉ F₉ N₉; skip)
      | ((with_reducible show wpAny _ _ (call (Value.ref 215) _) _ _ _); apply gap_codes; (case hk => first | exact rfl | assumption); (case B => k_asm); (case F => k_asm); (case X => k_asm); (case N => k_asm); (case T => k_asm); (case hdp => ktr_room); (case hun => units_room); (case ks => lcg_sub); (case hv => assumption); (case hg => assumption); (case hi => assumption); (case hlen => walk_at "MINE om"); (case h0 => walk_at "MINE om"); (case hpq => walk_at "MINE om"); (case hq => walk_at "MINE om"); k_whole; intro D₉ ws₉ c₉ h₉ tk₉ hi₉ hap₉ F₉ N₉; skip)
      ); (try dsimp only); (try k_fold))
    | (k_unfold; (try dsimp only)) | (k_end; wrow_close) | walk1 | (dsimp only; walk1) | (leave1; walk_say "STEP leave1"; try dsimp only) | fail "no step"))
  all_goals (try dsimp only)
  all_goals (
    refine leaveK_ (by k_asm) (by k_asm) ?_
    intro kF kN hkept
    refine ret_int (ret _ _ _ kF (news_same N ks (news_sub kN (by lcg_sub)) hkept)) ?_)
  all_goals first | exact window_lo (by assumption) | exact window_hi hb hbz hz (by assumption) | exact window_in hb hbz hz (by walk_at "MINE om") (by walk_at "MINE om")

set_option maxHeartbeats 8000000 in
theorem buf_codes {bf bd gp gd' ce mk ls : Addr} {pt bv zv : Int} {es : List DictEntry} {ges : List DictEntry} {c : Nat} {rm gs ge : Int} {ys : List Value} {ns tx : List Int} {p q : Int} {tp tq : Tok}
    (B : Below A₀ base outer h₀) (F : Fr h₀ L s.heap m) (X : (hd.heap_39 w.params).In h₀) (N : News h₀ L s.heap news) (T : Top hd.view_39 loose mean mg mb h₀) (hk : cs.kind = .function) (hdp : dp + 8 < recursionLimit) (hun : un + 140 < cLine)
    (hv : BufEs gp mk ls pt bv zv es) (hge : GapEs ges rm ce gs ge) (hi : IntsAre ys ns) (hlen : ns.length ≤ 1000) (hg : GapHas ns gs ge tx) (hp : 1 ≤ p) (hpq : p ≤ q) (hq : q ≤ tx.length + 1)
    (ks : ∀ q ∈ [(bf, instObj 478 bd), (bd, dictOf es 20), (gp, instObj 267 gd'), (gd', dictOf ges 4), (ce, listOf ys.toArray c)], q ∈ news)
    (ret : ∀ D ws c' h' tk', IntsAre ws ((tx.drop (p - 1).toNat).take (q - p).toNat) → (∀ r ∈ news, Apart r.1 D) → Fr h₀ L h' m → News h₀ L h' ((D, listOf (List.toArray ws) c') :: news) → Q (.ref D) { s with heap := h', toks := tk' }) :
    wpAny (model PySem.Challenge.rw_oj0027_01.row.prog w) (ktrTop dp un gd cn cs L a ccd cl outer) (call (.ref 440) [.ref bf, .int p tp, .int q tq]) Q E s := by
  refine wpAny_call ?_
  walk_at "MINE enter2"
  clear B X F T
  rename (∀ q ∈ news, _) => hgr9
  cases hv
  have hge' := hge
  obtain ⟨h1, t1, u1, h2, t2, h3, t3, u3, h4, t4, u4, rfl⟩ := hge
  (repeat' (first
    | (k_here; k_dflt ((with_reducible show wpAny _ _ (call (Value.ref _) _) _ _ _); first
      | ((with_reducible show wpAny _ _ (call (Value.ref 201) _) _ _ _); apply gap_size; (case hk => first | exact rfl | assumption); (case B => k_asm); (case F => k_asm); (case X => k_asm); (case N => k_asm); (case T => k_asm); (case hdp => ktr_room); (case hun => units_room); (case ks => lcg_sub); (case hv => assumption); (case hg => assumption); (case hi => assumption); (case hlen => walk_at "MINE om"); k_whole; intro t₉ h₉ tk₉ F₉ N₉; skip)
      | ((with_reducible show wpAny _ _ (call (Value.ref 208) _) _ _ _); apply gap_code; (case hk => first | exact rfl | assumption); (case B => k_asm); (case F => k_asm); (case X => k_asm); (case N => k_asm); (case T => k_asm); (case hdp => ktr_room); (case hun => units_room); (case ks => lcg_sub); (case hv => assumption); (case hg => assumption); (case hi => assumption); (case hlen => walk_at "MINE om"); (case h0 => walk_at "MINE om"); (case hp => walk_at "MINE om"); k_whole; intro t₉ h₉ tk₉ F₉ N₉; skip)
      | ((with_reducible show wpAny _ _ (call (Value.ref 215) _) _ _ _); apply gap_codes; (case hk => first | exact rfl | assumption); (case B => k_asm); (case F => k_asm); (case X => k_asm); (case N => k_asm); (case T => k_asm); (case hdp => ktr_room); (case hun => units_room); (case ks => lcg_sub); (case hv => assumption); (case hg => assumption); (case hi => assumption); (case hlen => walk_at "MINE om"); (case h0 => walk_at "MINE om"); (case hpq => walk_at "MINE om"); (case hq => walk_at "MINE om"); k_whole; intro D₉ ws₉ c₉ h₉ tk₉ hi₉ hap₉ F₉ N₉; skip)
      ); (try dsimp only); (try k_fold))
    | (k_unfold; (try dsimp only)) | (k_end; wrow_close) | walk1 | (dsimp only; walk1) | (leave1; walk_say "STEP leave1"; try dsimp only) | fail "no step"))
  all_goals (try dsimp only)
  rename News _ _ _ _ => N9
  rename IntsAre _ _ => hi9
  refine leaveK_ (by k_asm) N9 ?_
  intro kF kN hkept
  have e9 : (q - 1 - (p - 1)).toNat = (q - p).toNat := by congr 1; walk_at "MINE om"
  rw [e9] at hi9
  refine ret _ _ _ _ _ hi9 (apart_all N hgr9 N9 (by k_mem) (by k_all)) kF (news_cons_same N ks kN (by k_mem) (by lcg_sub) hkept)
end

section
variable {w : World} {dp un : Nat} {gd : Option (List Code)} {cn : Str} {cs : Scope} {L a : Addr} {ccd : Value} {cl : List (Str × Addr)} {outer : List Env} {A₀ : Around} {base h₀ : Heap} {m mg mb : Str → Option Value} {news : List (Addr × Obj)} {s : Shared} {loose : List Str} {mean : ExcName → Option Value} {Q E : Value → Shared → Prop}

set_option maxHeartbeats 8000000 in
theorem text_begin {tv td : Addr} {tes : List DictEntry} {bf bd gp mk ls : Addr} {pt bv zv : Int} {es : List DictEntry}
    (B : Below A₀ base outer h₀) (F : Fr h₀ L s.heap m) (X : (hd.heap_39 w.params).In h₀) (N : News h₀ L s.heap news) (T : Top hd.view_39 loose mean mg mb h₀) (hk : cs.kind = .function) (hdp : dp + 8 < recursionLimit) (hun : un + 140 < cLine)
    (htv : TextEs bf tes) (hv : BufEs gp mk ls pt bv zv es)
    (ks : ∀ q ∈ [(tv, instObj 130 td), (td, dictOf tes 3), (bf, instObj 478 bd), (bd, dictOf es 20)], q ∈ news)
    (ret : ∀ t h' tk', Fr h₀ L h' m → News h₀ L h' news → Q (.int bv t) { s with heap := h', toks := tk' }) :
    wpAny (model PySem.Challenge.rw_oj0027_01.row.prog w) (ktrTop dp un gd cn cs L a ccd cl outer) (call (.ref 113) [.ref tv]) Q E s := by
  refine wpAny_call ?_
  walk_at "MINE enter"
  clear B X F T
  obtain ⟨y1, z1, x1, y2, z2, x2, y3, z3, rfl⟩ := htv
  cases hv
  (repeat' (first
    | (k_here; k_dflt ((with_reducible show wpAny _ _ (call (Value.ref _) _) _ _ _); first
      | ((with_reducible show wpAny _ _ (call (Value.ref 412) _) _ _ _); apply buf_begin; (case hk => first | exact rfl | assumption); (case B => k_asm); (case F => k_asm); (case X => k_asm); (case N => k_asm); (case T => k_asm); (case hdp => ktr_room); (case hun => units_room); (case ks => lcg_sub); (case hv => first | assumption | exact BufEs.mk ..); k_whole; intro t₉ h₉ tk₉ F₉ N₉; skip)
      | ((with_reducible show wpAny _ _ (call (Value.ref 419) _) _ _ _); apply buf_end; (case hk => first | exact rfl | assumption); (case B => k_asm); (case F => k_asm); (case X => k_asm); (case N => k_asm); (case T => k_asm); (case hdp => ktr_room); (case hun => units_room); (case ks => lcg_sub); (case hv => first | assumption | exact BufEs.mk ..); k_whole; intro t₉ h₉ tk₉ F₉ N₉; skip)
      | ((with_reducible show wpAny _ _ (call (Value.ref 433) _) _ _ _); apply buf_code; (case hk => first | exact rfl | assumption); (case B => k_asm); (case F => k_asm); (case X => k_asm); (case N => k_asm); (case T => k_asm); (case hdp => ktr_room); (case hun => units_room); (case ks => lcg_sub); (case hge => assumption); (case hg => assumption); (case hi => assumption); (case hv => first | assumption | exact BufEs.mk ..); (case hlen => walk_at "MINE om"); (case hb => walk_at "MINE om"); (case hbz => walk_at "MINE om"); (case hz => walk_at "MINE om"); k_whole; intro t₉ h₉ tk₉ F₉ N₉; skip)
      | ((with_reducible show wpAny _ _ (call (Value.ref 201) _) _ _ _); apply gap_size; (case hk => first | exact rfl | assumption); (case B => k_asm); (case F => k_asm); (case X => k_asm); (case N => k_asm); (case T => k_asm); (case hdp => ktr_room); (case hun => units_room); (case ks => lcg_sub); (case hv => assumption); (case hg => assumption); (case hi => assumption); (case hlen => walk_at "MINE om"); k_whole; intro t₉ h₉ tk₉ F₉ N₉; skip)
      | ((with_reducible show wpAny _ _ (call (Value.ref 208) _) _ _ _); apply gap_code; (case hk => first | exact rfl | assumption); (case B => k_asm); (case F => k_asm); (case X => k_asm); (case N => k_asm); (case T => k_asm); (case hdp => ktr_room); (case hun => units_room); (case ks => lcg_sub); (case hv => assumption); (case hg => assumption); (case hi => assumption); (case hlen => walk_at "MINE om"); (case h0 => walk_at "MINE om"); (case hp => walk_at "MINE om"); k_whole; intro t₉ h₉ tk₉ F₉ N₉; skip)
      | ((with_reducible show wpAny _ _ (call (Value.ref 215) _) _ _ _); apply gap_codes; (case hk => first | exact rfl | assumption); (case B => k_asm); (case F => k_asm); (case X => k_asm); (case N => k_asm); (case T => k_asm); (case hdp => ktr_room); (case hun => units_room); (case ks => lcg_sub); (case hv => assumption); (case hg => assumption); (case hi => assumption); (case hlen => walk_at "MINE om"); (case h0 => walk_at "MINE om"); (case hpq => walk_at "MINE om"); (case hq => walk_at "MINE om"); k_whole; intro D₉ ws₉ c₉ h₉ tk₉ hi₉ hap₉ F₉ N₉; skip)
      ); (try dsimp only); (try k_fold))
    | (k_unfold; (try dsimp only)) | (k_end; wrow_close) | walk1 | (dsimp only; walk1) | (leave1; walk_say "STEP leave1"; try dsimp only) | fail "no step"))
  all_goals (try dsimp only)
  all_goals (
    refine leaveK_ (by k_asm) (by k_asm) ?_
    intro kF kN hkept
    refine ret_int (ret _ _ _ kF (news_same N ks (news_sub kN (by lcg_sub)) hkept)) ?_)
  all_goals rfl

set_option maxHeartbeats 8000000 in
theorem text_end {tv td : Addr} {tes : List DictEntry} {bf bd gp mk ls : Addr} {pt bv zv : Int} {es : List DictEntry}
    (B : Below A₀ base outer h₀) (F : Fr h₀ L s.heap m) (X : (hd.heap_39 w.params).In h₀) (N : News h₀ L s.heap news) (T : Top hd.view_39 loose mean mg mb h₀) (hk : cs.kind = .function) (hdp : dp + 8 < recursionLimit) (hun : un + 140 < cLine)
    (htv : TextEs bf tes) (hv : BufEs gp mk ls pt bv zv es)
    (ks : ∀ q ∈ [(tv, instObj 130 td), (td, dictOf tes 3), (bf, instObj 478 bd), (bd, dictOf es 20)], q ∈ news)
    (ret : ∀ t h' tk', Fr h₀ L h' m → News h₀ L h' news → Q (.int zv t) { s with heap := h', toks := tk' }) :
    wpAny (model PySem.Challenge.rw_oj0027_01.row.prog w) (ktrTop dp un gd cn cs L a ccd cl outer) (call (.ref 120) [.ref tv]) Q E s := by
  refine wpAny_call ?_
  walk_at "MINE enter"
  clear B X F T
  obtain ⟨y1, z1, x1, y2, z2, x2, y3, z3, rfl⟩ := htv
  cases hv
  (repeat' (first
    | (k_here; k_dflt ((with_reducible show wpAny _ _ (call (Value.ref _) _) _ _ _); first
      | ((with_reducible show wpAny _ _ (call (Value.ref 412) _) _ _ _); apply buf_begin; (case hk => first | exact rfl | assumption); (case B => k_asm); (case F => k_asm); (case X => k_asm); (case N => k_asm); (case T => k_asm); (case hdp => ktr_room); (case hun => units_room); (case ks => lcg_sub); (case hv => first | assumption | exact BufEs.mk ..); k_whole; intro t₉ h₉ tk₉ F₉ N₉; skip)
      | ((with_reducible show wpAny _ _ (call (Value.ref 419) _) _ _ _); apply buf_end; (case hk => first | exact rfl | assumption); (case B => k_asm); (case F => k_asm); (case X => k_asm); (case N => k_asm); (case T => k_asm); (case hdp => ktr_room); (case hun => units_room); (case ks => lcg_sub); (case hv => first | assumption | exact BufEs.mk ..); k_whole; intro t₉ h₉ tk₉ F₉ N₉; skip)
      | ((with_reducible show wpAny _ _ (call (Value.ref 433) _) _ _ _); apply buf_code; (case hk => first | exact rfl | assumption); (case B => k_asm); (case F => k_asm); (case X => k_asm); (case N => k_asm); (case T => k_asm); (case hdp => ktr_room); (case hun => units_room); (case ks => lcg_sub); (case hge => assumption); (case hg => assumption); (case hi => assumption); (case hv => first | assumption | exact BufEs.mk ..); (case hlen => walk_at "MINE om"); (case hb => walk_at "MINE om"); (case hbz => walk_at "MINE om"); (case hz => walk_at "MINE om"); k_whole; intro t₉ h₉ tk₉ F₉ N₉; skip)
      | ((with_reducible show wpAny _ _ (call (Value.ref 201) _) _ _ _); apply gap_size; (case hk => first | exact rfl | assumption); (case B => k_asm); (case F => k_asm); (case X => k_asm); (case N => k_asm); (case T => k_asm); (case hdp => ktr_room); (case hun => units_room); (case ks => lcg_sub); (case hv => assumption); (case hg => assumption); (case hi => assumption); (case hlen => walk_at "MINE om"); k_whole; intro t₉ h₉ tk₉ F₉ N₉; skip)
      | ((with_reducible show wpAny _ _ (call (Value.ref 208) _) _ _ _); apply gap_code; (case hk => first | exact rfl | assumption); (case B => k_asm); (case F => k_asm); (case X => k_asm); (case N => k_asm); (case T => k_asm); (case hdp => ktr_room); (case hun => units_room); (case ks => lcg_sub); (case hv => assumption); (case hg => assumption); (case hi => assumption); (case hlen => walk_at "MINE om"); (case h0 => walk_at "MINE om"); (case hp => walk_at "MINE om"); k_whole; intro t₉ h₉ tk₉ F₉ N₉; skip)
      | ((with_reducible show wpAny _ _ (call (Value.ref 215) _) _ _ _); apply gap_codes; (case hk => first | exact rfl | assumption); (case B => k_asm); (case F => k_asm); (case X => k_asm); (case N => k_asm); (case T => k_asm); (case hdp => ktr_room); (case hun => units_room); (case ks => lcg_sub); (case hv => assumption); (case hg => assumption); (case hi => assumption); (case hlen => walk_at "MINE om"); (case h0 => walk_at "MINE om"); (case hpq => walk_at "MINE om"); (case hq => walk_at "MINE om"); k_whole; intro D₉ ws₉ c₉ h₉ tk₉ hi₉ hap₉ F₉ N₉; skip)
      ); (try dsimp only); (try k_fold))
    | (k_unfold; (try dsimp only)) | (k_end; wrow_close) | walk1 | (dsimp only; walk1) | (leave1; walk_say "STEP leave1"; try dsimp only) | fail "no step"))
  all_goals (try dsimp only)
  all_goals (
    refine leaveK_ (by k_asm) (by k_asm) ?_
    intro kF kN hkept
    refine ret_int (ret _ _ _ kF (news_same N ks (news_sub kN (by lcg_sub)) hkept)) ?_)
  all_goals rfl

set_option maxHeartbeats 8000000 in
theorem text_code {tv td : Addr} {tes : List DictEntry} {bf bd gp gd' ce mk ls : Addr} {pt bv zv : Int} {es : List DictEntry} {ges : List DictEntry} {c : Nat} {rm gs ge : Int} {ys : List Value} {ns tx : List Int} {p : Int} {tp : Tok}
    (B : Below A₀ base outer h₀) (F : Fr h₀ L s.heap m) (X : (hd.heap_39 w.params).In h₀) (N : News h₀ L s.heap news) (T : Top hd.view_39 loose mean mg mb h₀) (hk : cs.kind = .function) (hdp : dp + 12 < recursionLimit) (hun : un + 180 < cLine)
    (htv : TextEs bf tes) (hv : BufEs gp mk ls pt bv zv es) (hge : GapEs ges rm ce gs ge) (hi : IntsAre ys ns) (hlen : ns.length ≤ 1000) (hg : GapHas ns gs ge tx) (hb : 1 ≤ bv) (hbz : bv ≤ zv) (hz : zv ≤ tx.length + 1)
    (ks : ∀ q ∈ [(tv, instObj 130 td), (td, dictOf tes 3), (bf, instObj 478 bd), (bd, dictOf es 20), (gp, instObj 267 gd'), (gd', dictOf ges 4), (ce, listOf ys.toArray c)], q ∈ news)
    (ret : ∀ t h' tk', Fr h₀ L h' m → News h₀ L h' news → Q (.int (codeAt ((tx.drop (bv - 1).toNat).take (zv - bv).toNat) bv p) t) { s with heap := h', toks := tk' }) :
    wpAny (model PySem.Challenge.rw_oj0027_01.row.prog w) (ktrTop dp un gd cn cs L a ccd cl outer) (call (.ref 127) [.ref tv, .int p tp]) Q E s := by
  refine wpAny_call ?_
  walk_at "MINE enter"
  clear B X F T
  obtain ⟨y1, z1, x1, y2, z2, x2, y3, z3, rfl⟩ := htv
  cases hv
  (repeat' (first
    | (k_here; k_dflt ((with_reducible show wpAny _ _ (call (Value.ref _) _) _ _ _); first
      | ((with_reducible show wpAny _ _ (call (Value.ref 412) _) _ _ _); apply buf_begin; (case hk => first | exact rfl | assumption); (case B => k_asm); (case F => k_asm); (case X => k_asm); (case N => k_asm); (case T => k_asm); (case hdp => ktr_room); (case hun => units_room); (case ks => lcg_sub); (case hv => first | assumption | exact BufEs.mk ..); k_whole; intro t₉ h₉ tk₉ F₉ N₉; skip)
      | ((with_reducible show wpAny _ _ (call (Value.ref 419) _) _ _ _); apply buf_end; (case hk => first | exact rfl | assumption); (case B => k_asm); (case F => k_asm); (case X => k_asm); (case N => k_asm); (case T => k_asm); (case hdp => ktr_room); (case hun => units_room); (case ks => lcg_sub); (case hv => first | assumption | exact BufEs.mk ..); k_whole; intro t₉ h₉ tk₉ F₉ N₉; skip)
      | ((with_reducible show wpAny _ _ (call (Value.ref 433) _) _ _ _); apply buf_code; (case hk => first | exact rfl | assumption); (case B => k_asm); (case F => k_asm); (case X => k_asm); (case N => k_asm); (case T => k_asm); (case hdp => ktr_room); (case hun => units_room); (case ks => lcg_sub); (case hge => assumption); (case hg => assumption); (case hi => assumption); (case hv => first | assumption | exact BufEs.mk ..); (case hlen => walk_at "MINE om"); (case hb => walk_at "MINE om"); (case hbz => walk_at "MINE om"); (case hz => walk_at "MINE om"); k_whole; intro t₉ h₉ tk₉ F₉ N₉; skip)
      | ((with_reducible show wpAny _ _ (call (Value.ref 201) _) _ _ _); apply gap_size; (case hk => first | exact rfl | assumption); (case B => k_asm); (case F => k_asm); (case X => k_asm); (case N => k_asm); (case T => k_asm); (case hdp => ktr_room); (case hun => units_room); (case ks => lcg_sub); (case hv => assumption); (case hg => assumption); (case hi => assumption); (case hlen => walk_at "MINE om"); k_whole; intro t₉ h₉ tk₉ F₉ N₉; skip)
      | ((with_reducible show wpAny _ _ (call (Value.ref 208) _) _ _ _); apply gap_code; (case hk => first | exact rfl | assumption); (case B => k_asm); (case F => k_asm); (case X => k_asm); (case N => k_asm); (case T => k_asm); (case hdp => ktr_room); (case hun => units_room); (case ks => lcg_sub); (case hv => assumption); (case hg => assumption); (case hi => assumption); (case hlen => walk_at "MINE om"); (case h0 => walk_at "MINE om"); (case hp => walk_at "MINE om"); k_whole; intro t₉ h₉ tk₉ F₉ N₉; skip)
      | ((with_reducible show wpAny _ _ (call (Value.ref 215) _) _ _ _); apply gap_codes; (case hk => first | exact rfl | assumption); (case B => k_asm); (case F => k_asm); (case X => k_asm); (case N => k_asm); (case T => k_asm); (case hdp => ktr_room); (case hun => units_room); (case ks => lcg_sub); (case hv => assumption); (case hg => assumption); (case hi => assumption); (case hlen => walk_at "MINE om"); (case h0 => walk_at "MINE om"); (case hpq => walk_at "MINE om"); (case hq => walk_at "MINE om"); k_whole; intro D₉ ws₉ c₉ h₉ tk₉ hi₉ hap₉ F₉ N₉; skip)
      ); (try dsimp only); (try k_fold))
    | (k_unfold; (try dsimp only)) | (k_end; wrow_close) | walk1 | (dsimp only; walk1) | (leave1; walk_say "STEP leave1"; try dsimp only) | fail "no step"))
  all_goals (try dsimp only)
  all_goals (
    refine leaveK_ (by k_asm) (by k_asm) ?_
    intro kF kN hkept
    refine ret_int (ret _ _ _ kF (news_same N ks (news_sub kN (by lcg_sub)) hkept)) ?_)
  all_goals rfl
end
end PartBuf5

section PartBuf6
section
variable {w : World} {dp un : Nat} {gd : Option (List Code)} {cn : Str} {cs : Scope} {L a : Addr} {ccd : Value} {cl : List (Str × Addr)} {outer : List Env} {A₀ : Around} {base h₀ : Heap} {m mg mb : Str → Option Value} {news : List (Addr × Obj)} {s : Shared} {loose : List Str} {mean : ExcName → Option Value} {Q E : Value → Shared → Prop}

set_option maxHeartbeats 8000000 in
theorem text_code2 {tv td : Addr} {tes : List DictEntry} {bf bd gp gd' ce mk ls : Addr} {pt bv : Int} {ss : List Int} {es : List DictEntry} {ges : List DictEntry} {c : Nat} {rm gs ge : Int} {ys : List Value} {ns tx : List Int} {p : Int} {tp : Tok}
    (B : Below A₀ base outer h₀) (F : Fr h₀ L s.heap m) (X : (hd.heap_39 w.params).In h₀) (N : News h₀ L s.heap news) (T : Top hd.view_39 loose mean mg mb h₀) (hk : cs.kind = .function) (hdp : dp + 12 < recursionLimit) (hun : un + 180 < cLine)
    (htv : TextEs bf tes) (hv : BufEs gp mk ls pt bv (bv + ss.length) es) (hge : GapEs ges rm ce gs ge) (hi : IntsAre ys ns) (hlen : ns.length ≤ 1000) (hg : GapHas ns gs ge tx) (hb : 1 ≤ bv) (hz : bv + ss.length ≤ tx.length + 1) (hss : (tx.drop (bv - 1).toNat).take (bv + (ss.length : Int) - bv).toNat = ss)
    (ks : ∀ q ∈ [(tv, instObj 130 td), (td, dictOf tes 3), (bf, instObj 478 bd), (bd, dictOf es 20), (gp, instObj 267 gd'), (gd', dictOf ges 4), (ce, listOf ys.toArray c)], q ∈ news)
    (ret : ∀ t h' tk', Fr h₀ L h' m → News h₀ L h' news → Q (.int (codeAt ss bv p) t) { s with heap := h', toks := tk' }) :
    wpAny (model PySem.Challenge.rw_oj0027_01.row.prog w) (ktrTop dp un gd cn cs L a ccd cl outer) (call (.ref 127) [.ref tv, .int p tp]) Q E s := by
  refine text_code B F X N T hk hdp hun htv hv hge hi hlen hg hb (by walk_at "MINE om") hz ks (fun t h' tk' F' N' => ?_)
  rw [hss]
  exact ret t h' tk' F' N'

theorem whole_window (tx : List Int) : (tx.drop ((1 : Int) - 1).toNat).take ((tx.length : Int) + 1 - 1).toNat = tx := by
  have e1 : ((1 : Int) - 1).toNat = 0 := rfl
  have e2 : ((tx.length : Int) + 1 - 1).toNat = tx.length := by walk_at "MINE om"
  rw [e1, e2, List.drop_zero, List.take_length]
end

section
variable {w : World} {dp un : Nat} {gd : Option (List Code)} {cn : Str} {cs : Scope} {L a : Addr} {ccd : Value} {cl : List (Str × Addr)} {outer : List Env} {A₀ : Around} {base h₀ : Heap} {m mg mb : Str → Option Value} {news : List (Addr × Obj)} {s : Shared} {loose : List Str} {mean : ExcName → Option Value} {Q E : Value → Shared → Prop}

set_option maxHeartbeats 8000000 in
theorem text_text {tv td : Addr} {tes : List DictEntry} {bf bd gp gd' ce mk ls : Addr} {pt bv zv : Int} {ss : List Int} {es : List DictEntry} {ges : List DictEntry} {c : Nat} {rm gs ge : Int} {ys : List Value} {ns tx : List Int} {kp : Addr} {zs : List Value} {c9 : Nat} {tb : Tok}
    (B : Below A₀ base outer h₀) (F : Fr h₀ L s.heap m) (X : (hd.heap_39 w.params).In h₀) (N : News h₀ L s.heap news) (T : Top hd.view_39 loose mean mg mb h₀) (hk : cs.kind = .function) (hdp : dp + 16 < recursionLimit) (hun : un + 300 < cLine)
    (htv : TextEs bf tes) (hv : BufEs gp mk ls pt bv zv es) (hge : GapEs ges rm ce gs ge) (hi : IntsAre ys ns) (hlen : ns.length ≤ 1000) (hg : GapHas ns gs ge tx) (hzv : zv = bv + ss.length) (hb : 1 ≤ bv) (hz : bv + ss.length ≤ tx.length + 1) (hss : (tx.drop (bv - 1).toNat).take (zv - bv).toNat = ss) (hi2 : IntsAre zs ss) (hbv : bv ≤ 1000) (hss1 : ss.length ≤ 1000)
    (ks : ∀ q ∈ [(tv, instObj 130 td), (td, dictOf tes 3), (bf, instObj 478 bd), (bd, dictOf es 20), (gp, instObj 267 gd'), (gd', dictOf ges 4), (ce, listOf ys.toArray c), (kp, listOf zs.toArray c9)], q ∈ news)
    (ret : ∀ h' tk', Fr h₀ L h' m → News h₀ L h' news → Q (.bool true) { s with heap := h', toks := tk' }) :
    wpAny (model PySem.Challenge.rw_oj0027_01.row.prog w) (ktrTop dp un gd cn cs L a ccd cl outer) (call (.ref 612) [.ref tv, .int bv tb, .ref kp]) Q E s := by
  refine wpAny_call ?_
  subst hzv
  walk_at "MINE enterC"
  clear B X F T
  have hv' := hv
  have htv' := htv
  obtain ⟨y1, z1, x1, y2, z2, x2, y3, z3, rfl⟩ := htv
  (repeat' (first
    | (k_here; k_dflt ((with_reducible show wpAny _ _ (call (Value.ref _) _) _ _ _); first
      | ((with_reducible show wpAny _ _ (call (Value.ref 113) _) _ _ _); apply text_begin; (case hk => first | exact rfl | assumption); (case B => k_asm); (case F => k_asm); (case X => k_asm); (case N => k_asm); (case T => k_asm); (case hdp => ktr_room); (case hun => units_room); (case ks => lcg_sub); (case hv => first | assumption | exact BufEs.mk ..); (case htv => first | assumption | exact ⟨_, _, _, _, _, _, _, _, rfl⟩); k_whole; intro t₉ h₉ tk₉ F₉ N₉; skip)
      | ((with_reducible show wpAny _ _ (call (Value.ref 120) _) _ _ _); apply text_end; (case hk => first | exact rfl | assumption); (case B => k_asm); (case F => k_asm); (case X => k_asm); (case N => k_asm); (case T => k_asm); (case hdp => ktr_room); (case hun => units_room); (case ks => lcg_sub); (case hv => first | assumption | exact BufEs.mk ..); (case htv => first | assumption | exact ⟨_, _, _, _, _, _, _, _, rfl⟩); k_whole; intro t₉ h₉ tk₉ F₉ N₉; skip)
      | ((with_reducible show wpAny _ _ (call (Value.ref 127) _) _ _ _); apply text_code2; (case hk => first | exact rfl | assumption); (case B => k_asm); (case F => k_asm); (case X => k_asm); (case N => k_asm); (case T => k_asm); (case hdp => ktr_room); (case hun => units_room); (case hge => assumption); (case ks => lcg_sub); (case hg => assumption); (case hi => assumption); (case hv => first | assumption | exact BufEs.mk ..); (case htv => first | assumption | exact ⟨_, _, _, _, _, _, _, _, rfl⟩); (case hlen => assumption); (case hb => assumption); (case hz => assumption); (case hss => assumption); k_whole; intro t₉ h₉ tk₉ F₉ N₉; skip)
      ); (try dsimp only); (try k_fold))
    | (k_unfold; (try dsimp only)) | (k_end; wrow_close) | walk1 | (dsimp only; walk1) | (leave1; walk_say "STEP leave1"; try dsimp only) | fail "no step"))
  all_goals (try dsimp only)
  all_goals (
    refine leaveK_ (by k_asm) (by k_asm) ?_
    intro kF kN hkept
    rw [heard_eq ss bv _ (fun _ => rfl), decide_eq_true rfl]
    exact ret _ _ kF (news_same N ks (news_sub kN (by lcg_sub)) hkept))
end
end PartBuf6

section PartBuf7
section
variable {w : World} {dp un : Nat} {gd : Option (List Code)} {cn : Str} {cs : Scope} {L a : Addr} {ccd : Value} {cl : List (Str × Addr)} {outer : List Env} {A₀ : Around} {base h₀ : Heap} {m mg mb : Str → Option Value} {news : List (Addr × Obj)} {s : Shared} {loose : List Str} {mean : ExcName → Option Value} {Q E : Value → Shared → Prop}

set_option maxHeartbeats 8000000 in
theorem buf_narrow {bf bd gp gd' ce mk ls : Addr} {pt bv zv : Int} {es : List DictEntry} {ges : List DictEntry} {c : Nat} {rm gs ge : Int} {ys : List Value} {ns tx : List Int} {p q : Int} {tp tq : Tok}
    (B : Below A₀ base outer h₀) (F : Fr h₀ L s.heap m) (X : (hd.heap_39 w.params).In h₀) (N : News h₀ L s.heap news) (T : Top hd.view_39 loose mean mg mb h₀) (hk : cs.kind = .function) (hdp : dp + 14 < recursionLimit) (hun : un + 300 < cLine)
    (hv : BufEs gp mk ls pt bv zv es) (ho : Asc [bd, bf, gd', gp, ce]) (hge : GapEs ges rm ce gs ge) (hi : IntsAre ys ns) (hlen : ns.length ≤ 1000) (hg : GapHas ns gs ge tx) (hp : 1 ≤ p) (hpq : p ≤ q) (hq : q ≤ tx.length + 1)
    (ks : ∀ q ∈ [(bd, dictOf es 20)], q ∈ news) (ks' : ∀ q ∈ [(bf, instObj 478 bd), (gp, instObj 267 gd'), (gd', dictOf ges 4), (ce, listOf ys.toArray c)], q ∈ news)
    (ret : ∀ v h' tk' es' pt', BufEs gp mk ls pt' p q es' → Fr h₀ L h' m → (∀ news', (∀ q ∈ news', q ∈ [(bd, dictOf es' 20)] ∨ (q ∈ news ∧ ∀ r ∈ [(bd, dictOf es 20)], q.1 ≠ r.1)) → News h₀ L h' news') → Q v { s with heap := h', toks := tk' }) :
    wpAny (model PySem.Challenge.rw_oj0027_01.row.prog w) (ktrTop dp un gd cn cs L a ccd cl outer) (call (.ref 593) [.ref bf, .int p tp, .int q tq]) Q E s := by
  refine wpAny_call ?_
  have kss : ∀ q ∈ [(bd, dictOf es 20)] ++ [(bf, instObj 478 bd), (gp, instObj 267 gd'), (gd', dictOf ges 4), (ce, listOf ys.toArray c)], q ∈ news := fun q hq => (List.mem_append.mp hq).elim (ks q) (ks' q)
  dsimp only [List.cons_append, List.nil_append] at kss
  walk_at "MINE enter"
  clear B X F T
  cases hv
  have hmin : min p q = p := by walk_at "MINE om"
  have hmax : max p q = q := by walk_at "MINE om"
  (repeat' (first
    | (k_here; k_dflt ((with_reducible show wpAny _ _ (call (Value.ref _) _) _ _ _); first
      | ((with_reducible show wpAny _ _ (call (Value.ref 426) _) _ _ _); apply buf_size; (case hk => first | exact rfl | assumption); (case B => k_asm); (case F => k_asm); (case X => k_asm); (case N => k_asm); (case T => k_asm); (case hdp => ktr_room); (case hun => units_room); (case hge => assumption); (case ks => lcg_sub); (case hg => assumption); (case hi => assumption); (case hv => first | assumption | exact BufEs.mk ..); (case hlen => walk_at "MINE om"); k_whole; intro t₉ h₉ tk₉ F₉ N₉; skip)
      ); (try dsimp only); (try k_fold))
    | (k_unfold; (try dsimp only)) | (k_end; wrow_close) | walk1 | (dsimp only; walk1) | (leave1; walk_say "STEP leave1"; try dsimp only) | fail "no step"))
  all_goals (try dsimp only)
  have e1 : (if q < p then q else p) = p := if_neg (by walk_at "MINE om")
  have e2 : (if q > p then q else p) = q := by split <;> walk_at "MINE om"
  rename News _ _ _ _ => N9
  simp only [e1, e2] at N9
  refine leaveK_ (by k_asm) N9 ?_
  intro kF kN hkept
  refine ret _ _ _ _ _ (.mk ..) kF (fun news' hn => news_done N ks ks' (mods' := [(bd, dictOf _ 20)]) (news_sub kN (by lcg_sub)) hkept hn)

set_option maxHeartbeats 8000000 in
theorem buf_widen {bf bd gp gd' ce mk ls : Addr} {pt bv zv : Int} {es : List DictEntry} {ges : List DictEntry} {c : Nat} {rm gs ge : Int} {ys : List Value} {ns tx : List Int} 
    (B : Below A₀ base outer h₀) (F : Fr h₀ L s.heap m) (X : (hd.heap_39 w.params).In h₀) (N : News h₀ L s.heap news) (T : Top hd.view_39 loose mean mg mb h₀) (hk : cs.kind = .function) (hdp : dp + 14 < recursionLimit) (hun : un + 300 < cLine)
    (hv : BufEs gp mk ls pt bv zv es) (ho : Asc [bd, bf, gd', gp, ce]) (hge : GapEs ges rm ce gs ge) (hi : IntsAre ys ns) (hlen : ns.length ≤ 1000) (hg : GapHas ns gs ge tx)
    (ks : ∀ q ∈ [(bd, dictOf es 20)], q ∈ news) (ks' : ∀ q ∈ [(bf, instObj 478 bd), (gp, instObj 267 gd'), (gd', dictOf ges 4), (ce, listOf ys.toArray c)], q ∈ news)
    (ret : ∀ v h' tk' es' pt', BufEs gp mk ls pt' 1 (tx.length + 1) es' → Fr h₀ L h' m → (∀ news', (∀ q ∈ news', q ∈ [(bd, dictOf es' 20)] ∨ (q ∈ news ∧ ∀ r ∈ [(bd, dictOf es 20)], q.1 ≠ r.1)) → News h₀ L h' news') → Q v { s with heap := h', toks := tk' }) :
    wpAny (model PySem.Challenge.rw_oj0027_01.row.prog w) (ktrTop dp un gd cn cs L a ccd cl outer) (call (.ref 600) [.ref bf]) Q E s := by
  refine wpAny_call ?_
  have kss : ∀ q ∈ [(bd, dictOf es 20)] ++ [(bf, instObj 478 bd), (gp, instObj 267 gd'), (gd', dictOf ges 4), (ce, listOf ys.toArray c)], q ∈ news := fun q hq => (List.mem_append.mp hq).elim (ks q) (ks' q)
  dsimp only [List.cons_append, List.nil_append] at kss
  walk_at "MINE enter"
  clear B X F T
  cases hv
  (repeat' (first
    | (k_here; k_dflt ((with_reducible show wpAny _ _ (call (Value.ref _) _) _ _ _); first
      | ((with_reducible show wpAny _ _ (call (Value.ref 426) _) _ _ _); apply buf_size; (case hk => first | exact rfl | assumption); (case B => k_asm); (case F => k_asm); (case X => k_asm); (case N => k_asm); (case T => k_asm); (case hdp => ktr_room); (case hun => units_room); (case hge => assumption); (case ks => lcg_sub); (case hg => assumption); (case hi => assumption); (case hv => first | assumption | exact BufEs.mk ..); (case hlen => walk_at "MINE om"); k_whole; intro t₉ h₉ tk₉ F₉ N₉; skip)
      ); (try dsimp only); (try k_fold))
    | (k_unfold; (try dsimp only)) | (k_end; wrow_close) | walk1 | (dsimp only; walk1) | (leave1; walk_say "STEP leave1"; try dsimp only) | fail "no step"))
  all_goals (try dsimp only)
  refine leaveK_ (by k_asm) (by k_asm) ?_
  intro kF kN hkept
  refine ret _ _ _ _ _ (.mk ..) kF (fun news' hn => news_done N ks ks' (mods' := [(bd, dictOf _ 20)]) (news_sub kN (by lcg_sub)) hkept hn)
end
end PartBuf7

section PartBuf8
section
variable {w : World} {dp un : Nat} {gd : Option (List Code)} {cn : Str} {cs : Scope} {L a : Addr} {ccd : Value} {cl : List (Str × Addr)} {outer : List Env} {A₀ : Around} {base h₀ : Heap} {m mg mb : Str → Option Value} {news : List (Addr × Obj)} {s : Shared} {loose : List Str} {mean : ExcName → Option Value} {Q E : Value → Shared → Prop}

set_option maxHeartbeats 8000000 in
theorem buf_insert0 {bf bd gp gd' ce mk md rw ls cd : Addr} {es ges : List DictEntry} {c c9 c8 : Nat} {rm : Int} {ys zs : List Value} {ns ms : List Int} {hh : Int} {th : Tok} {orw : Obj} 
    (B : Below A₀ base outer h₀) (F : Fr h₀ L s.heap m) (X : (hd.heap_39 w.params).In h₀) (N : News h₀ L s.heap news) (T : Top hd.view_39 loose mean mg mb h₀) (hk : cs.kind = .function) (hdp : dp + 14 < recursionLimit) (hun : un + 340 < cLine)
    (hbf : (bf, instObj 478 bd) ∈ news) (hbd : (bd, dictOf es 20) ∈ news) (hv : BufEs gp mk ls 1 1 1 es) (hgp : (gp, instObj 267 gd') ∈ news) (hgd : (gd', dictOf ges 4) ∈ news) (hge : GapEs ges rm ce 0 8) (hce : (ce, listOf ys.toArray c) ∈ news)
    (hls : (ls, listOf #[] c8) ∈ news) (hmk : (mk, instObj 337 md) ∈ news) (hmd : (md, dictOf [⟨hh, .str (Str.ofString "rows") th, .ref rw⟩] 1) ∈ news) (hrw9 : (rw, orw) ∈ news) (hcd9 : (cd, listOf zs.toArray c9) ∈ news)
    (hi : IntsAre ys ns) (hlen : ns.length = 8) (hrm : 0 ≤ rm) (hrm1 : rm ≤ 100) (hi2 : IntsAre zs ms) (hms : ms.length ≤ 100) (hrw : (rw == sysModules) = false) (hd1 : orw.IsDictOf (strKind PySem.Challenge.rw_oj0027_01.row.prog w) []) (hd2 : orw.IsDictOf (intKind PySem.Challenge.rw_oj0027_01.row.prog w) []) (hd3 : PyProof.V.FlatPairs PyData.int [] []) (hd4 : PyProof.V.FlatPairs PyData.str [] []) (ho : Asc [bd, bf, gd', gp, ce, md, mk, rw, ls]) (hcd : @LT.lt Nat _ cd bd ∨ @LT.lt Nat _ ls cd)
    (ret : ∀ h' tk' es' pt' ges' gs' ge' ws rs c', BufEs gp mk ls pt' 1 (ms.length + 1) es' → GapEs ges' rm ce gs' ge' → IntsAre ws rs → (rs.length : Int) ≤ 8 + ms.length + rm → GapHas rs gs' ge' ms → Fr h₀ L h' m → (∀ news', (∀ q ∈ news', q ∈ [(bd, dictOf es' 20), (gd', dictOf ges' 4), (ce, listOf (List.toArray ws) c')] ∨ (q ∈ news ∧ ∀ r ∈ [(bd, dictOf es 20), (gd', dictOf ges 4), (ce, listOf ys.toArray c)], q.1 ≠ r.1)) → News h₀ L h' news') → Q .none { s with heap := h', toks := tk' }) :
    wpAny (model PySem.Challenge.rw_oj0027_01.row.prog w) (ktrTop dp un gd cn cs L a ccd cl outer) (call (.ref 579) [.ref bf, .ref cd]) Q E s := by
  have hg : GapHas ns 0 8 [] := ⟨by decide, by decide, by walk_at "MINE om", by
    have e0 : ((0 : Int)).toNat = 0 := rfl
    have e8 : ((8 : Int)).toNat = 8 := rfl
    rw [e0, e8, List.take_zero, List.drop_of_length_le (by walk_at "MINE om")]
    rfl⟩
  refine buf_insert (tx := []) (hh := hh) (th := th) (c := c) (c9 := c9) (c8 := c8) B F X N T hk hdp hun hv ho hge hi (by walk_at "MINE om") hrm hrm1 hg hrw hd1 hd2 hd3 hd4 hi2 hms hcd rfl rfl (by decide) (by decide) ?_ ?_ (fun h' tk' es' pt' zv' ges' gs' ge' ws rs c' tx' htx hzv h1 h2 h3 h4 h5 h6 h7 => ?_)
  · exact List.forall_mem_cons.mpr ⟨hbd, List.forall_mem_cons.mpr ⟨hgd, List.forall_mem_cons.mpr ⟨hce, fun _ h => nomatch h⟩⟩⟩
  · exact List.forall_mem_cons.mpr ⟨hbf, List.forall_mem_cons.mpr ⟨hgp, List.forall_mem_cons.mpr ⟨hcd9, List.forall_mem_cons.mpr ⟨hls, List.forall_mem_cons.mpr ⟨hmk, List.forall_mem_cons.mpr ⟨hmd, List.forall_mem_cons.mpr ⟨hrw9, fun _ h => nomatch h⟩⟩⟩⟩⟩⟩⟩
  · have e : tx' = ms := by rw [htx]; simp
    subst e
    subst hzv
    exact ret h' tk' es' pt' ges' gs' ge' ws rs c' h1 h2 h3 (by rw [hlen] at h4; exact h4) h5 h6 h7
end
end PartBuf8

section PartLawBase
/-- the law's body and its scope, taken out of the row's program -/
def lawBody : List Stmt := match PySem.Challenge.pw_oj0027_01.main.body.getLast? with
  | some (.FunctionDef _ _ b _ _ _ _ _ _ _) => b
  | _ => []
def lawScope : Scope := match PySem.Challenge.pw_oj0027_01.main.body.getLast? with
  | some (.FunctionDef _ _ _ _ _ _ sc _ _ _) => sc
  | _ => default
theorem execs_app_wp {M : Model} {Γ : PySem.Ctx} {env : Env} {l2 : List Stmt} {Q : Flow → Pos → Shared → Prop} {E : Value → Pos → Shared → Prop} : ∀ (l1 : List Stmt) (p : Pos) (s : Shared),
    Sem.wp M Γ (execs l1 env) (fun f p' s' => match f with | .next => Sem.wp M Γ (execs l2 env) Q E p' s' | f => Q f p' s') E p s → Sem.wp M Γ (execs (l1 ++ l2) env) Q E p s
  | [], p, s, h => h
  | st :: r, p, s, h => by
    rw [execs_cons, Sem.wp_bind'] at h
    rw [List.cons_append, execs_cons, Sem.wp_bind']
    refine Sem.wp_mono M Γ _ (fun f p' s' h' => ?_) (fun _ _ _ e => e) p s h
    cases f with
    | next => exact execs_app_wp r p' s' h'
    | brk => exact h'
    | cont => exact h'
    | ret v => exact h'
theorem execs_app {M : Model} {A : Around} {env : Env} {l1 l2 : List Stmt} {Q : Flow → Shared → Prop} {E : Value → Shared → Prop} {s : Shared}
    (h : wpAny M A (execs l1 env) (fun f s' => match f with | .next => wpAny M A (execs l2 env) Q E s' | f => Q f s') E s) : wpAny M A (execs (l1 ++ l2) env) Q E s := fun Γ p hΓ =>
  execs_app_wp l1 p s (Sem.wp_mono M Γ _ (post' := fun f p' s' => match f with | .next => Sem.wp M Γ (execs l2 env) (fun a _ s' => Q a s') (fun e _ s' => E e s') p' s' | f => Q f s') (fun f p' s' h' => by
    cases f with
    | next => exact h' Γ p' hΓ
    | brk => exact h'
    | cont => exact h'
    | ret v => exact h') (fun _ _ _ e => e) p s (h Γ p hΓ))
/-- what is behind a cut; the walk does not open it -/
structure Rest (P : Prop) : Prop where
  out : P
theorem execs_cut {M : Model} {A : Around} {env : Env} {l1 l2 : List Stmt} {Q : Flow → Shared → Prop} {E : Value → Shared → Prop} {s : Shared}
    (h : wpAny M A (execs l1 env) (fun f s' => match f with | .next => Rest (wpAny M A (execs l2 env) Q E s') | f => Q f s') E s) : wpAny M A (execs (l1 ++ l2) env) Q E s := execs_app (wpAny_mono h (fun f s' h' => by
    cases f with
    | next => exact h'.out
    | brk => exact h'
    | cont => exact h'
    | ret v => exact h') fun _ _ e => e)
theorem fr_put {h₀ h : Heap} {L : Addr} {m : Str → Option Value} {x : Str} {v : Value} (F : Fr h₀ L h m) (hx : m x = some v) : Fr h₀ L h (fun y => if y = x then some v else m y) := by
  have e : (fun y => if y = x then some v else m y) = m := by
    funext y
    by_cases h1 : y = x
    · rw [if_pos h1, h1, hx]
    · rw [if_neg h1]
  rw [e]; exact F
end PartLawBase

section PartLoopInv
section
variable {prog : Program} {w : World} {A : Around} {E : Value → Shared → Prop} {s : Shared} {env : Env} {h₀ : Heap} {x : Str} {body : List Stmt} {Q : Flow → Shared → Prop}
/-- a turn's end: the iterator stands as it stood, the ledger bears the invariant at the same addresses -/
def TurnJ (h₀ : Heap) (L : Addr) (J : (Str → Option Value) → List (Addr × Obj) → Prop) (one : Addr × Obj) (s₁ : Shared) (f : Flow) (s₂ : Shared) : Prop :=
  f = .next ∧ ∃ h' tk m' nx, s₂ = { s₁ with heap := h', toks := tk } ∧ Fr h₀ L h' m' ∧ News h₀ L h' (one :: nx) ∧ J m' nx
theorem TurnJ.intro {L : Addr} {J : (Str → Option Value) → List (Addr × Obj) → Prop} {m' : Str → Option Value} {one : Addr × Obj} {nx news' : List (Addr × Obj)} {s₁ : Shared} {h' : Heap} {tk : Nat} (F : Fr h₀ L h' m') (N : News h₀ L h' news')
    (hn : ∀ p ∈ one :: nx, p ∈ news') (hj : J m' nx) : TurnJ h₀ L J one s₁ .next { s₁ with heap := h', toks := tk } := ⟨rfl, h', tk, m', nx, rfl, F, fun p hp => N p (hn p hp), hj⟩

/-- a for over a range, by an invariant over the frame and a ledger whose addresses stay -/
theorem iter_rangeJ {r : Addr} {a₀ b₀ : Int} {t₀ u₀ v₀ : Tok} {n : Nat} {m₀ : Str → Option Value} {news : List (Addr × Obj)} (J : Nat → (Str → Option Value) → List (Addr × Obj) → Prop)
    (hh : A.handled = none) (hr : IsRange s.heap r a₀ b₀ 1 t₀ u₀ v₀) (hsmall : Builtin.Range.small a₀ b₀ 1 = true) (hn : Builtin.Range.rangeSize a₀ b₀ 1 = (n : Int)) (F : Fr h₀ env.locals s.heap m₀) (N : News h₀ env.locals s.heap news) (hj : J 0 m₀ news)
    (hadr : ∀ i m nx, J i m nx → nx.map (·.1) = news.map (·.1))
    (turn : ∀ I i t m₁ nx h tk o, i < n → (∀ p ∈ news, p.1 < I) → J i m₁ nx → Fr h₀ env.locals h (fun y => if y = x then some (.int (a₀ + (i : Nat)) t) else m₁ y) → News h₀ env.locals h ((I, o) :: nx) →
      wpAny (model prog w) A (execs body env) (TurnJ h₀ env.locals (J (i + 1)) (I, o) { s with heap := h, toks := tk }) E { s with heap := h, toks := tk })
    (done : ∀ m₁ nx h tk, J n m₁ nx → Fr h₀ env.locals h m₁ → News h₀ env.locals h nx → Q .next { s with heap := h, toks := tk }) :
    wpAny (model prog w) A (pyIter (.ref r)) (fun it s₂ => LoopAtV prog w A h₀ env x body Q E it s₂) E s := by
  refine wpAny_pyIter_range hr hsmall ?_
  have W : Walks prog w A s.heap.objs.size [s.heap.objs.size] [s.heap.objs.size] n (fun i v => i < n ∧ ∃ t, v = .int (a₀ + i * 1) t)
      (fun i h => IsRangeIter h s.heap.objs.size (a₀ + (i : Nat) * 1) ((n : Int) - (i : Nat)) 1) := (Walks.range hh _ a₀ 1 n).bound
  have hlt : ∀ p ∈ news, p.1 < s.heap.objs.size := fun p hp => Heap.lt_size (N p hp).1
  refine ⟨_, _, _, n, _, _, m₀, news, J, rfl, W, ?_, ?_, ?_, (by show IsRangeIter _ _ _ _ _; rw [hn]; simpa using Heap.get?_push_size _ rfl), F.push _, (fun p hp => ⟨Heap.get?_push_of_some _ (N p hp).1, (N p hp).2⟩), hj, ?_, ?_⟩
  · intro hm
    exact absurd F.ns.lt ((List.mem_singleton.mp hm) ▸ Nat.lt_irrefl _)
  · intro b hb
    rw [List.mem_singleton.mp hb]
    exact next_is_new F
  · intro p hp hI
    exact absurd (hlt p hp) ((List.mem_singleton.mp hI) ▸ Nat.lt_irrefl _)
  · rintro i v m₁ news₁ s₁ own ⟨hh', tk', rfl⟩ hi ⟨_, t, rfl⟩ hJ hoff hown _ hall hst' F₁ N₁
    obtain ⟨o, ho⟩ : ∃ o, hh'.get? s.heap.objs.size = some o := ⟨_, hst'⟩
    have hio : (s.heap.objs.size, o) ∈ own := hall _ (List.mem_singleton.mpr rfl) (next_is_new F) o ho
    have hone := own_one hown (fun b hb => .inl (List.mem_singleton.mp hb)) ho N₁
    rw [Int.mul_one] at F₁
    refine wpAny_mono (turn _ i t m₁ news₁ hh' tk' o hi hlt hJ F₁ (news_one hio N₁)) (fun f s₂ p => ?_) fun _ _ e => e
    obtain ⟨rfl, h', tk, m', nx, rfl, F', N', hJ'⟩ := p
    refine .next ⟨rfl, h', tk, m', nx, rfl, F', fun p hp => ?_, fun p hp hq => ?_, hJ'⟩
    · rcases List.mem_append.mp hp with h1 | h1
      · rw [hone p h1]; exact N' _ (.head _)
      · exact N' _ (.tail _ h1)
    · have h1 : p.1 ∈ nx.map (·.1) := List.mem_map.mpr ⟨p, hp, rfl⟩
      rw [hadr _ _ _ hJ'] at h1
      obtain ⟨q, hq1, hq2⟩ := List.mem_map.mp h1
      have h2 := hlt q hq1
      rw [hq2, List.mem_singleton.mp hq] at h2
      exact Nat.lt_irrefl _ h2
  · rintro h' tk m' news' F' N' _ hJ
    exact done m' news' h' tk hJ F' N'
theorem frame_keep {x : Str} {l : List Str} {m' m₀ : Str → Option Value} (h : ∀ y, y ≠ x → l.contains y = false → m' y = m₀ y) :
    m' = fun y => if y = x then m' y else if l.contains y then m' y else m₀ y := by
  funext y
  by_cases h1 : y = x
  · simp [h1]
  · simp only [if_neg h1]
    cases h2 : l.contains y with
    | true => simp
    | false => simp only [Bool.false_eq_true, if_false]; exact h y h1 h2
theorem turn_same {x a b : Str} {va vb v : Option Value} {u m₀ : Str → Option Value} {y : Str} (h1 : y ≠ x) (h2 : [a, b].contains y = false) :
    (if y = b then vb else if y = a then va else if y = x then v else if [a, b].contains y then u y else m₀ y) = m₀ y := by
  have ha : ¬ y = a := fun e => by subst e; simp at h2
  have hb : ¬ y = b := fun e => by subst e; simp at h2
  rw [if_neg hb, if_neg ha, if_neg h1, h2]
  rfl
theorem turn_same2 {x a b : Str} {va vb v v2 : Option Value} {u m₀ : Str → Option Value} {y : Str} (h1 : y ≠ x) (h2 : [a, b].contains y = false) :
    (if y = a then va else if y = b then vb else if y = x then v else if y = x then v2 else if [a, b].contains y then u y else m₀ y) = m₀ y := by
  have ha : ¬ y = a := fun e => by subst e; simp at h2
  have hb : ¬ y = b := fun e => by subst e; simp at h2
  rw [if_neg ha, if_neg hb, if_neg h1, if_neg h1, h2]
  rfl
theorem For_rest {px pos : Pos} {iter : PySem.Expr} {L : Addr} {m : Str → Option Value} (_F : Fr h₀ L s.heap m) (hL : env.locals = L) (hx : env.kindOf x = some .local)
    (hp : (env.scope.kind == .class || (env.scope.kind == .module && env.locals != env.globals)) = false)
    (h : wpAny (model prog w) A (eval iter env) (fun xv s₁ => Rest (wpAny (model prog w) A (pyIter xv) (fun it s₂ => LoopAtV prog w A h₀ env x body Q E it s₂) E s₁)) E s)
    (hs : ∀ x, foldedSetIterable iter env x = pure x := by intro _; rfl)
    (hE : PassesOwn (model prog w) A env E := by passes_own) :
    wpAny (model prog w) A (exec (.For (.Name x px) iter body [] pos) env) Q E s := by
  subst hL
  exact For_invVF _F hx hp (wpAny_mono h (fun _ _ r => r.out) fun _ _ e => e) hs hE
theorem item_any {L : Addr} {news : List (Addr × Obj)} {value slice : PySem.Expr} {l : Addr} {vs : Array Value} {n : Nat} {k : Int} {u : Tok} {Q : Value → Shared → Prop} (N : News h₀ L s.heap news) (hm : (l, listOf vs n) ∈ news)
    (h0 : 0 ≤ k) (hfit : k < 2 ^ 63) (hlt : k.toNat < vs.size) (h : ∀ v, vs[k.toNat]? = some v → Q v s)
    (hs : subscripted slice false (.ref l) (.int k u) = operate [.ref l, .int k u] (getItem (.ref l) (.int k u)) := by with_unfolding_all rfl) :
    wpAny (model prog w) A (subscriptTail value slice (.ref l) (.int k u)) Q E s := by
  have hl : s.heap.IsList l vs := ⟨_, (N _ hm).1, rfl, n, rfl⟩
  have hv : vs[k.toNat]? = some vs[k.toNat] := Array.getElem?_eq_getElem hlt
  exact tail_any hl.typeIs slot_list_getitem.lookup (wpAny_getItem_list hl h0 hfit hv (h _ hv)) hs
theorem item_four {L : Addr} {news : List (Addr × Obj)} {value slice : PySem.Expr} {l : Addr} {v0 v1 v2 v3 : Value} {n : Nat} {k : Int} {u : Tok} {Q : Value → Shared → Prop} (N : News h₀ L s.heap news) (hm : (l, listOf #[v0, v1, v2, v3] n) ∈ news)
    (h0 : 0 ≤ k) (h4 : k < 4) (k0 : Q v0 s) (k1 : Q v1 s) (k2 : Q v2 s) (k3 : Q v3 s)
    (hs : subscripted slice false (.ref l) (.int k u) = operate [.ref l, .int k u] (getItem (.ref l) (.int k u)) := by with_unfolding_all rfl) :
    wpAny (model prog w) A (subscriptTail value slice (.ref l) (.int k u)) Q E s := by
  refine item_any N hm h0 (by walk_at "MINE om") (by simp; walk_at "MINE om") (fun v hv => ?_) hs
  have : k = 0 ∨ k = 1 ∨ k = 2 ∨ k = 3 := by walk_at "MINE om"
  rcases this with rfl | rfl | rfl | rfl
  · cases hv; exact k0
  · cases hv; exact k1
  · cases hv; exact k2
  · cases hv; exact k3
end
end PartLoopInv

section PartCompInd
section
variable {prog : Program} {w : World} {A : Around} {E : Value → Shared → Prop} {s : Shared} {env : Env} {h₀ : Heap} {Q : Flow → Shared → Prop}
theorem comp_ind {L : Addr} {m : Str → Option Value} {elt : PySem.Expr} {x : Str} {scope : Scope} {cl : List (Str × Addr)} {S : List (Addr × Obj) → Prop} {P : Nat → Value → Prop} {Fin : List Value → List (Addr × Obj) → Prop} {n : Nat} {led : List (Addr × Obj)}
    (J : Nat → List Value → List (Addr × Obj) → Prop) (h0 : J 0 [] led) (fin : ∀ ys nw, J n ys nw → Fin ys nw)
    (step : ∀ i ys nw, i < n → J i ys nw → ∀ v I oI C oC D m₂ h tk (E' : Value → Shared → Prop), P i v → LCg.NsObj oC m₂ → m₂ x = some v → Fr h₀ L h m → News h₀ L h ((I, oI) :: (C, oC) :: (D, LCg.lst ys) :: nw) → LCg.Off3 I C D nw → ((@Ne Nat I C) ∧ (@Ne Nat I D) ∧ (@Ne Nat C D)) →
      wpAny (model prog w) A (eval elt (compEnvC scope cl C env)) (fun y s₂ => Rest (LCg.CompEnd h₀ L m { s with heap := h, toks := tk } I oI C oC D (LCg.lst ys) S (fun y nw' => J (i + 1) (ys ++ [y]) nw') y s₂)) E' { s with heap := h, toks := tk }) :
    LCg.CompRest prog w A h₀ L m env elt x scope cl s S P Fin n 0 [] led := by
  have key : ∀ (j i : Nat) (ys : List Value) (nw : List (Addr × Obj)), i + j = n → J i ys nw → LCg.CompRest prog w A h₀ L m env elt x scope cl s S P Fin j i ys nw := by
    intro j
    induction j with
    | zero => intro i ys nw e hJ; exact LCg.CompRest.zero (fin ys nw (by rw [← e]; exact hJ))
    | succ j ih =>
      intro i ys nw e hJ
      refine LCg.CompRest.succ ?_
      intro v I oI C oC D m₂ h tk E' hv hC hx F' N' off' ne'
      refine wpAny_mono (step i ys nw (by walk_at "MINE om") hJ v I oI C oC D m₂ h tk E' hv hC hx F' N' off' ne') (fun y s₂ r => ?_) fun _ _ e => e
      obtain ⟨h', tk', nw', e1, F1, N1, o1, S1, r1⟩ := r.out
      exact ⟨h', tk', nw', e1, F1, N1, o1, S1, ih (i + 1) _ _ (by walk_at "MINE om") r1⟩
  exact key n 0 [] led (by walk_at "MINE om") h0
end
end PartCompInd

section PartToldCmp
section
variable {prog : Program} {w : World} {A : Around} {E : Value → Shared → Prop} {s : Shared} {a b : Addr} {Q : Value → Shared → Prop}
theorem eqAt_getD {o : Option Value} {d d' : Value} (h : SeqAt.EqAt A s d d' true) : SeqAt.EqAt A s (o.getD d) (o.getD d') true := by
  cases o with
  | none => exact h
  | some v => exact SeqAt.EqAt.same v
theorem eqAt_nil {d d' : Addr} (h1 : s.heap.IsTuple d #[]) (h2 : s.heap.IsTuple d' #[]) (hu : A.units < cLine) : SeqAt.EqAt A s (.ref d) (.ref d') true := by
  by_cases h : d = d'
  · subst h; exact SeqAt.EqAt.same _
  · refine SeqAt.EqAt.of_refs h ?_
    have := SeqAt.RcAt.tuples (e := fun _ => true) h1 h2 hu (fun j j1 _ => absurd j1 (by simp))
    simpa using this
theorem ne_four {x0 x1 x2 x3 y0 y1 y2 y3 : Value} (hl : s.heap.IsList a #[x0, x1, x2, x3]) (hb : s.heap.IsList b #[y0, y1, y2, y3]) (hu : A.units < cLine)
    (e0 : SeqAt.EqAt A.in1 s x0 y0 true) (e1 : SeqAt.EqAt A.in1 s x1 y1 true) (e2 : SeqAt.EqAt A.in1 s x2 y2 true) (e3 : SeqAt.EqAt A.in1 s x3 y3 true) (h : Q (.bool false) s) :
    wpAny (model prog w) A (compareOp .NotEq (.ref a) (.ref b)) Q E s := by
  refine cmp_ofNotEq ?_
  refine SeqAt.RcNeAt.lists (e := fun _ => true) hl hb rfl hu (fun j h1 h2 => ?_) prog w E Q (by exact h)
  match j, h1, h2 with
  | 0, _, _ => exact e0
  | 1, _, _ => exact e1
  | 2, _, _ => exact e2
  | 3, _, _ => exact e3
end
end PartToldCmp

section PartTold
local macro_rules | `(tactic| walk_at "call builtin:dict.get") => `(tactic| (k_here; k_dflt (refine' kdg_get2 (knd := PySem.intKind _ _) ?N ?hp ?hd ?lo ?key _ rfl ?_; (case N => k_asm); (case hp => k_mem); (case hd => k_asm); (case lo => k_asm); (case key => exact intKind_is _ _ _ _); k_whole)))

/-- the dict of a ToldView: its four tables -/
def ToldEs (d0 d1 d2 d3 : Addr) (es : List DictEntry) : Prop :=
  ∃ h1 t1 v1 h2 t2 v2 h3 t3 h4 t4 h5 t5 h6 t6, es = [⟨h1, .str (Str.ofString "codes") t1, v1⟩, ⟨h2, .str (Str.ofString "first") t2, v2⟩, ⟨h3, .str (Str.ofString "faces") t3, .ref d0⟩, ⟨h4, .str (Str.ofString "hidden") t4, .ref d1⟩, ⟨h5, .str (Str.ofString "shown") t5, .ref d2⟩, ⟨h6, .str (Str.ofString "strings") t6, .ref d3⟩]

section
variable {w : World} {dp un : Nat} {gd : Option (List Code)} {cn : Str} {cs : Scope} {L a : Addr} {ccd : Value} {cl : List (Str × Addr)} {outer : List Env} {A₀ : Around} {base h₀ : Heap} {m mg mb : Str → Option Value} {news : List (Addr × Obj)} {s : Shared} {loose : List Str} {mean : ExcName → Option Value} {Q E : Value → Shared → Prop}

set_option maxHeartbeats 8000000 in
theorem told_faces {r rd d0 d1 d2 d3 : Addr} {es : List DictEntry} {o : Obj} {kvs : List (Int × Value)} {p : Int} {tp : Tok}
    (B : Below A₀ base outer h₀) (F : Fr h₀ L s.heap m) (X : (hd.heap_39 w.params).In h₀) (N : News h₀ L s.heap news) (T : Top hd.view_39 loose mean mg mb h₀) (hk : cs.kind = .function) (hdp : dp + 6 < recursionLimit) (hun : un + 120 < cLine)
    (hv : ToldEs d0 d1 d2 d3 es) (hd : o.IsDictOf (PySem.intKind PySem.Challenge.rw_oj0027_01.row.prog w) kvs) (hlo : (d0 == sysModules) = false)
    (ks : ∀ q ∈ [(r, instObj 178 rd), (rd, dictOf es 6), (d0, o)], q ∈ news)
    (ret : ∀ D h' tk', Fr h₀ L h' m → News h₀ L h' ((D, { cls := .type "tuple", data := .seq #[] }) :: news) → Q ((valueAt kvs p).getD (.ref D)) { s with heap := h', toks := tk' }) :
    wpAny (model PySem.Challenge.rw_oj0027_01.row.prog w) (ktrTop dp un gd cn cs L a ccd cl outer) (call (.ref 154) [.ref r, .int p tp]) Q E s := by
  refine wpAny_call ?_
  walk_at "MINE enter"
  clear B X F T
  obtain ⟨h1, t1, v1, h2, t2, v2, h3, t3, h4, t4, h5, t5, h6, t6, rfl⟩ := hv
  k_steps
  all_goals (try dsimp only)
  refine leaveK_ (by k_asm) (by k_asm) ?_
  intro kF kN hkept
  exact ret _ _ _ kF (news_cons_same N ks kN (by k_mem) (by lcg_sub) hkept)

set_option maxHeartbeats 8000000 in
theorem told_hidden {r rd d0 d1 d2 d3 : Addr} {es : List DictEntry} {o : Obj} {kvs : List (Int × Value)} {p : Int} {tp : Tok}
    (B : Below A₀ base outer h₀) (F : Fr h₀ L s.heap m) (X : (hd.heap_39 w.params).In h₀) (N : News h₀ L s.heap news) (T : Top hd.view_39 loose mean mg mb h₀) (hk : cs.kind = .function) (hdp : dp + 6 < recursionLimit) (hun : un + 120 < cLine)
    (hv : ToldEs d0 d1 d2 d3 es) (hd : o.IsDictOf (PySem.intKind PySem.Challenge.rw_oj0027_01.row.prog w) kvs) (hlo : (d1 == sysModules) = false)
    (ks : ∀ q ∈ [(r, instObj 178 rd), (rd, dictOf es 6), (d1, o)], q ∈ news)
    (ret : ∀ t h' tk', Fr h₀ L h' m → News h₀ L h' news → Q ((valueAt kvs p).getD (.int 0 t)) { s with heap := h', toks := tk' }) :
    wpAny (model PySem.Challenge.rw_oj0027_01.row.prog w) (ktrTop dp un gd cn cs L a ccd cl outer) (call (.ref 161) [.ref r, .int p tp]) Q E s := by
  refine wpAny_call ?_
  walk_at "MINE enter"
  clear B X F T
  obtain ⟨h1, t1, v1, h2, t2, v2, h3, t3, h4, t4, h5, t5, h6, t6, rfl⟩ := hv
  k_steps
  all_goals (try dsimp only)
  refine leaveK_ (by k_asm) (by k_asm) ?_
  intro kF kN hkept
  exact ret _ _ _ kF (news_same N ks (news_sub kN (by lcg_sub)) hkept)

set_option maxHeartbeats 8000000 in
theorem told_shown {r rd d0 d1 d2 d3 : Addr} {es : List DictEntry} {o : Obj} {kvs : List (Int × Value)} {p : Int} {tp : Tok}
    (B : Below A₀ base outer h₀) (F : Fr h₀ L s.heap m) (X : (hd.heap_39 w.params).In h₀) (N : News h₀ L s.heap news) (T : Top hd.view_39 loose mean mg mb h₀) (hk : cs.kind = .function) (hdp : dp + 6 < recursionLimit) (hun : un + 120 < cLine)
    (hv : ToldEs d0 d1 d2 d3 es) (hd : o.IsDictOf (PySem.intKind PySem.Challenge.rw_oj0027_01.row.prog w) kvs) (hlo : (d2 == sysModules) = false)
    (ks : ∀ q ∈ [(r, instObj 178 rd), (rd, dictOf es 6), (d2, o)], q ∈ news)
    (ret : ∀ h' tk', Fr h₀ L h' m → News h₀ L h' news → Q ((valueAt kvs p).getD (.none)) { s with heap := h', toks := tk' }) :
    wpAny (model PySem.Challenge.rw_oj0027_01.row.prog w) (ktrTop dp un gd cn cs L a ccd cl outer) (call (.ref 168) [.ref r, .int p tp]) Q E s := by
  refine wpAny_call ?_
  walk_at "MINE enter"
  clear B X F T
  obtain ⟨h1, t1, v1, h2, t2, v2, h3, t3, h4, t4, h5, t5, h6, t6, rfl⟩ := hv
  k_steps
  all_goals (try dsimp only)
  refine leaveK_ (by k_asm) (by k_asm) ?_
  intro kF kN hkept
  exact ret _ _ kF (news_same N ks (news_sub kN (by lcg_sub)) hkept)

set_option maxHeartbeats 8000000 in
theorem told_strings {r rd d0 d1 d2 d3 : Addr} {es : List DictEntry} {o : Obj} {kvs : List (Int × Value)} {p : Int} {tp : Tok}
    (B : Below A₀ base outer h₀) (F : Fr h₀ L s.heap m) (X : (hd.heap_39 w.params).In h₀) (N : News h₀ L s.heap news) (T : Top hd.view_39 loose mean mg mb h₀) (hk : cs.kind = .function) (hdp : dp + 6 < recursionLimit) (hun : un + 120 < cLine)
    (hv : ToldEs d0 d1 d2 d3 es) (hd : o.IsDictOf (PySem.intKind PySem.Challenge.rw_oj0027_01.row.prog w) kvs) (hlo : (d3 == sysModules) = false)
    (ks : ∀ q ∈ [(r, instObj 178 rd), (rd, dictOf es 6), (d3, o)], q ∈ news)
    (ret : ∀ D h' tk', Fr h₀ L h' m → News h₀ L h' ((D, { cls := .type "tuple", data := .seq #[] }) :: news) → Q ((valueAt kvs p).getD (.ref D)) { s with heap := h', toks := tk' }) :
    wpAny (model PySem.Challenge.rw_oj0027_01.row.prog w) (ktrTop dp un gd cn cs L a ccd cl outer) (call (.ref 175) [.ref r, .int p tp]) Q E s := by
  refine wpAny_call ?_
  walk_at "MINE enter"
  clear B X F T
  obtain ⟨h1, t1, v1, h2, t2, v2, h3, t3, h4, t4, h5, t5, h6, t6, rfl⟩ := hv
  k_steps
  all_goals (try dsimp only)
  refine leaveK_ (by k_asm) (by k_asm) ?_
  intro kF kN hkept
  exact ret _ _ _ kF (news_cons_same N ks kN (by k_mem) (by lcg_sub) hkept)
end
end PartTold

section PartLaw8
section
variable {w : World} {dp un : Nat} {gd : Option (List Code)} {L a : Addr} {ccd : Value} {outer : List Env} {A₀ : Around} {base h₀ : Heap} {mg mb u : Str → Option Value} {s : Shared} {loose : List Str} {mean : ExcName → Option Value} {Q : Flow → Shared → Prop} {E : Value → Shared → Prop}

set_option maxHeartbeats 8000000 in
theorem law_21 {v vd sg kp tv td bf bd gp gd' ce mk ls ow : Addr} {ves tes es ges : List DictEntry} {ys zs cs os : List Value} {ns tx rs : List Int} {b rm gs ge pt bv zv : Int} {tb : Tok} {c1 c2 c3 c : Nat}
    (B : Below A₀ base outer h₀) (F : Fr h₀ L s.heap (fun y => if y = Str.ofString "own_buffer" then some (.ref bf) else if y = Str.ofString "own_text" then some (.ref tv) else if y = Str.ofString "own_whole" then some (.ref ow) else if y = Str.ofString "signs" then some (.ref sg) else if y = Str.ofString "kept" then some (.ref kp) else if y = Str.ofString "own_view" then some (.ref v) else if y = Str.ofString "first" then some (.int b tb) else u y)) (X : (hd.heap_39 w.params).In h₀) (N : News h₀ L s.heap [(v, instObj 88 vd), (vd, dictOf ves 2), (sg, listOf ys.toArray c1), (kp, listOf zs.toArray c2), (tv, instObj 130 td), (td, dictOf tes 3), (bf, instObj 478 bd), (bd, dictOf es 20), (gp, instObj 267 gd'), (gd', dictOf ges 4), (ce, listOf cs.toArray c), (ow, listOf os.toArray c3)]) (T : Top hd.view_39 loose mean mg mb h₀) (hdp : dp + 40 < recursionLimit) (hun : un + 1000 < cLine)
    (ho : Asc [bd, bf, gd', gp, ce]) (hv : BufEs gp mk ls pt bv zv es) (htv : TextEs bf tes) (hge : GapEs ges rm ce gs ge) (hg : GapHas rs gs ge tx) (hvw : ViewAt 88 ves sg b) (hi1 : IntsAre ys ns) (hi2 : IntsAre zs ns) (hi3 : IntsAre cs rs) (hi4 : IntsAre os tx) (hl1 : ns.length ≤ 100) (hl2 : tx.length ≤ 100) (hl3 : rs.length ≤ 1000) (hb0 : 0 ≤ b) (hb1 : b ≤ 100) (hap1 : @LT.lt Nat _ v bd) (hap2 : @LT.lt Nat _ vd bd) (hap3 : @LT.lt Nat _ sg bd) (hap4 : @LT.lt Nat _ kp bd) (hap5 : @LT.lt Nat _ bd tv) (hap6 : @LT.lt Nat _ bd td) (hap7 : Apart bd ow)
    (hQ : ∀ h' tk' m', Fr h₀ L h' m' → Q (.ret (.bool true)) { s with heap := h', toks := tk' }) :
    wpAny (model PySem.Challenge.rw_oj0027_01.row.prog w) (ktrTop dp un gd (Str.ofString "law") lawScope L a ccd [(Str.ofString "deck", L + 1)] outer) (execs (lawBody.drop 21) (envX (Str.ofString "law") lawScope L a ccd [(Str.ofString "deck", L + 1)])) Q E s := by
  show wpAny (model PySem.Challenge.rw_oj0027_01.row.prog w) (ktrTop dp un gd (Str.ofString "law") { kind := _, names := _, isGenerator := _, isCoroutine := _, more := _ } L a ccd [(Str.ofString "deck", L + 1)] outer) (execs (_ :: _) (envX (Str.ofString "law") { kind := _, names := _, isGenerator := _, isCoroutine := _, more := _ } L a ccd [(Str.ofString "deck", L + 1)])) Q E s
  (repeat' (first
    | (k_here; k_dflt ((with_reducible show wpAny _ _ (call (Value.ref _) _) _ _ _); first
      | ((with_reducible show wpAny _ _ (call (Value.ref 612) _) _ _ _); apply text_view; (case hk => first | exact rfl | assumption); (case B => k_asm); (case F => k_asm); (case X => k_asm); (case N => k_asm); (case T => k_asm); (case hdp => ktr_room); (case hun => units_room); (case hv => assumption); (case ks => lcg_sub); (case hi => assumption); (case hi' => assumption); (case hlen => walk_at "MINE om"); (case hb0 => walk_at "MINE om"); (case hb1 => walk_at "MINE om"); k_whole; intro h₉ tk₉ F₉ N₉; skip)
      | ((with_reducible show wpAny _ _ (call (Value.ref 612) _) _ _ _); apply text_text; (case hk => first | exact rfl | assumption); (case B => k_asm); (case F => k_asm); (case X => k_asm); (case N => k_asm); (case T => k_asm); (case hdp => ktr_room); (case hun => units_room); (case hv => assumption); (case htv => assumption); (case hge => assumption); (case ks => lcg_sub); (case hi => assumption); (case hg => assumption); (case hi2 => assumption); (case hss => first | assumption | exact whole_window _); (case hzv => walk_at "MINE om"); (case hlen => walk_at "MINE om"); (case hb => walk_at "MINE om"); (case hz => walk_at "MINE om"); (case hbv => walk_at "MINE om"); (case hss1 => walk_at "MINE om"); k_whole; intro h₉ tk₉ F₉ N₉; skip)
      | ((with_reducible show wpAny _ _ (call (Value.ref 600) _) _ _ _); apply buf_widen; (case hk => first | exact rfl | assumption); (case B => k_asm); (case F => k_asm); (case X => k_asm); (case N => k_asm); (case T => k_asm); (case hdp => ktr_room); (case hun => units_room); (case hv => assumption); (case hge => assumption); (case ks => lcg_sub); (case ks' => lcg_sub); (case hi => assumption); (case hg => assumption); (case ho => assumption); (case hlen => walk_at "MINE om"); k_whole; intro v₉ h₉ tk₉ es₉ pt₉ hes₉ F₉ hN₉; (have N₉ := hN₉ _ (updF_done (by k_updF) _)); clear hN₉; (try dsimp only at N₉))
      ); (try dsimp only); (try k_fold))
    | (k_unfold; (try dsimp only)) | (k_end; wrow_close) | walk1 | (dsimp only; walk1) | (leave1; walk_say "STEP leave1"; try dsimp only) | fail "no step"))
  all_goals (try dsimp only)
  exact hQ _ _ _ (by k_asm)
end
end PartLaw8

section PartLaw7
theorem window_slice {tx : List Int} {p q : Int} (h1 : 1 ≤ p) (h2 : p ≤ q) (h3 : q ≤ tx.length + 1) :
    (tx.drop (p - 1).toNat).take (q - p).toNat = List.take (min (q - 1).toNat tx.length - (p - 1).toNat) (List.drop (p - 1).toNat tx) := part_slice h1 h2 h3
theorem slice_zv {tx : List Int} {p q : Int} (h1 : 1 ≤ p) (h2 : p ≤ q) (h3 : q ≤ tx.length + 1) : q = p + (List.take (min (q - 1).toNat tx.length - (p - 1).toNat) (List.drop (p - 1).toNat tx)).length := by
  rw [part_len (Int.sub_nonneg_of_le h1) (less_one p h2) (by walk_at "MINE om")]
  walk_at "MINE om"
theorem slice_small {tx : List Int} {p q : Int} {n : Nat} (h : tx.length ≤ n) : (List.take (min (q - 1).toNat tx.length - (p - 1).toNat) (List.drop (p - 1).toNat tx)).length ≤ n := by
  rw [List.length_take, List.length_drop]
  exact Nat.le_trans (Nat.min_le_right _ _) (Nat.le_trans (Nat.sub_le _ _) h)

section
variable {w : World} {dp un : Nat} {gd : Option (List Code)} {L a : Addr} {ccd : Value} {outer : List Env} {A₀ : Around} {base h₀ : Heap} {mg mb u : Str → Option Value} {s : Shared} {loose : List Str} {mean : ExcName → Option Value} {Q : Flow → Shared → Prop} {E : Value → Shared → Prop}

set_option maxHeartbeats 8000000 in
theorem law_17 {l D : Addr} {oc : Obj} {k : Int} {tkk : Tok} {nd cl : Nat} {dz : List Value} {dn : List Int} {v vd sg kp tv td bf bd gp gd' ce mk ls ow : Addr} {ves tes es ges : List DictEntry} {ys zs cs os : List Value} {ns tx rs : List Int} {b rm gs ge pt bv zv : Int} {tb : Tok} {c1 c2 c3 c : Nat}
    (B : Below A₀ base outer h₀) (F : Fr h₀ L s.heap (fun y => if y = Str.ofString "own_buffer" then some (.ref bf) else if y = Str.ofString "own_text" then some (.ref tv) else if y = Str.ofString "own_whole" then some (.ref ow) else if y = Str.ofString "signs" then some (.ref sg) else if y = Str.ofString "kept" then some (.ref kp) else if y = Str.ofString "own_view" then some (.ref v) else if y = Str.ofString "first" then some (.int b tb) else u y)) (X : (hd.heap_39 w.params).In h₀) (N : News h₀ L s.heap [(L + 1, oc), (D, listOf #[.ref l, .int k tkk] nd), (l, listOf dz.toArray cl), (v, instObj 88 vd), (vd, dictOf ves 2), (sg, listOf ys.toArray c1), (kp, listOf zs.toArray c2), (tv, instObj 130 td), (td, dictOf tes 3), (bf, instObj 478 bd), (bd, dictOf es 20), (gp, instObj 267 gd'), (gd', dictOf ges 4), (ce, listOf cs.toArray c), (ow, listOf os.toArray c3)]) (T : Top hd.view_39 loose mean mg mb h₀) (hdp : dp + 40 < recursionLimit) (hun : un + 1000 < cLine)
    (hoc : oc.data = .cell (some (.ref D))) (hdi : IntsAre dz dn) (hdl : dn.length ≤ 63) (hk0 : 0 ≤ k) (hk1 : k ≤ 400) (ho : Asc [L + 1, D, kp, vd, v, bd, bf, gd', gp, ce, td, tv] ∧ @LT.lt Nat _ (l) D ∧ @LT.lt Nat _ (sg) kp) (hsg : Apart D sg) (hv : BufEs gp mk ls pt bv zv es) (htv : TextEs bf tes) (hge : GapEs ges rm ce gs ge) (hg : GapHas rs gs ge tx) (hvw : ViewAt 88 ves sg b) (hi1 : IntsAre ys ns) (hi2 : IntsAre zs ns) (hi3 : IntsAre cs rs) (hi4 : IntsAre os tx) (hl1 : ns.length ≤ 100) (hl2 : tx.length ≤ 100) (hl3 : rs.length ≤ 1000) (hb0 : 0 ≤ b) (hb1 : b ≤ 100) (hap7 : Apart bd ow) (hap8 : Apart D ow)
    (hQ : ∀ h' tk' m', Fr h₀ L h' m' → Q (.ret (.bool true)) { s with heap := h', toks := tk' }) :
    wpAny (model PySem.Challenge.rw_oj0027_01.row.prog w) (ktrTop dp un gd (Str.ofString "law") lawScope L a ccd [(Str.ofString "deck", L + 1)] outer) (execs (lawBody.drop 17) (envX (Str.ofString "law") lawScope L a ccd [(Str.ofString "deck", L + 1)])) Q E s := by
  obtain ⟨ho, ho1, ho2⟩ := ho
  show wpAny (model PySem.Challenge.rw_oj0027_01.row.prog w) (ktrTop dp un gd (Str.ofString "law") { kind := _, names := _, isGenerator := _, isCoroutine := _, more := _ } L a ccd [(Str.ofString "deck", L + 1)] outer) (execs ([_, _, _, _] ++ lawBody.drop 21) (envX (Str.ofString "law") { kind := _, names := _, isGenerator := _, isCoroutine := _, more := _ } L a ccd [(Str.ofString "deck", L + 1)])) Q E s
  refine execs_cut ?_
  (repeat' (first
    | (k_here; k_dflt ((with_reducible show wpAny _ _ (call (Value.ref _) _) _ _ _); first
      | ((with_reducible show wpAny _ _ (call (Value.ref 607) _) _ _ _); apply draw_call; (case hk => first | exact rfl | assumption); (case B => k_asm); (case F => k_asm); (case X => k_asm); (case N => k_asm); (case T => k_asm); (case hdp => ktr_room); (case hun => units_room); (case hD => k_mem); (case hl => k_mem); (case hne => k_ne); (case hi => assumption); (case hlen => assumption); (case hk0 => walk_at "MINE om"); (case hk1 => walk_at "MINE om"); (case hm0 => walk_at "MINE om"); (case hm1 => walk_at "MINE om"); k_whole; intro r₉ tr₉ t₉ h₉ tk₉ hr0₉ hr1₉ F₉ hN₉; (have N₉ := hN₉ _ (updF_done (by k_updF) _)); clear hN₉; (try dsimp only at N₉))
      | ((with_reducible show wpAny _ _ (call (Value.ref 593) _) _ _ _); apply buf_narrow; (case hk => first | exact rfl | assumption); (case B => k_asm); (case F => k_asm); (case X => k_asm); (case N => k_asm); (case T => k_asm); (case hdp => ktr_room); (case hun => units_room); (case hv => assumption); (case hge => assumption); (case ks => lcg_sub); (case ks' => lcg_sub); (case hi => assumption); (case hg => assumption); (case ho => first | assumption | (walk_at "MINE ord")); (case hlen => walk_at "MINE om"); (case hp => walk_at "MINE om"); (case hpq => walk_at "MINE om"); (case hq => walk_at "MINE om"); k_whole; intro v₉ h₉ tk₉ es₉ pt₉ hes₉ F₉ hN₉; (have N₉ := hN₉ _ (updF_done (by k_updF) _)); clear hN₉; (try dsimp only at N₉))
      | ((with_reducible show wpAny _ _ (call (Value.ref 612) _) _ _ _); apply text_text; (case hk => first | exact rfl | assumption); (case B => k_asm); (case F => k_asm); (case X => k_asm); (case N => k_asm); (case T => k_asm); (case hdp => ktr_room); (case hun => units_room); (case hv => assumption); (case htv => assumption); (case hge => assumption); (case ks => lcg_sub); (case hi => assumption); (case hg => assumption); (case hi2 => assumption); (case hss => first | assumption | exact whole_window _ | exact window_slice (by walk_at "MINE om") (by walk_at "MINE om") (by walk_at "MINE om") | fail "hss"); (case hzv => first | exact slice_zv (by walk_at "MINE om") (by walk_at "MINE om") (by walk_at "MINE om") | walk_at "MINE om"); (case hlen => walk_at "MINE om"); (case hb => walk_at "MINE om"); (case hz => walk_at "MINE om"); (case hbv => walk_at "MINE om"); (case hss1 => first | exact slice_small (Nat.le_trans (by assumption) (by decide)) | walk_at "MINE om"); k_whole; intro h₉ tk₉ F₉ N₉; skip)
      ); (try dsimp only); (try k_fold))
    | (k_unfold; (try dsimp only)) | (k_end; wrow_close) | walk1 | (dsimp only; walk1) | (leave1; walk_say "STEP leave1"; try dsimp only) | fail "no step"))
  all_goals (try dsimp only)
  refine Rest.mk ?_
  rename Fr _ _ _ _ => F9
  rename News _ _ _ _ => N9
  rename BufEs _ _ _ _ _ _ _ => hb9
  refine law_21 B (fr_put (fr_put (fr_put (fr_put (fr_put (fr_put (fr_put F9 (x := Str.ofString "first") rfl) (x := Str.ofString "own_view") rfl) (x := Str.ofString "kept") rfl) (x := Str.ofString "signs") rfl) (x := Str.ofString "own_whole") rfl) (x := Str.ofString "own_text") rfl) (x := Str.ofString "own_buffer") rfl) X (news_sub N9 (by lcg_sub)) T hdp hun (by walk_at "MINE ord") hb9 htv hge hg hvw hi1 hi2 hi3 hi4 hl1 hl2 hl3 hb0 hb1 (by walk_at "MINE lt") (by walk_at "MINE lt") (by walk_at "MINE lt") (by walk_at "MINE lt") (by walk_at "MINE lt") (by walk_at "MINE lt") hap7 (fun h' tk' m' F' => hQ h' tk' m' F')
end
end PartLaw7

section PartLaw6
theorem buf_noM {gp mk ls : Addr} {pt bv zv : Int} {es : List DictEntry} (hv : BufEs gp mk ls pt bv zv es) : getL (Str.ofString "codes") es = some none ∧ getL (Str.ofString "size") es = some none := by cases hv; exact ⟨rfl, rfl⟩
local macro_rules | `(tactic| walk_at "getMethod ref") => `(tactic| (k_here; k_dflt (refine' method_inst ?k1 ?k2 ?k3 ?k4 ?k5 ?k6 ?k7 ?_; (case k1 => k_asm); (case k2 => k_asm); (case k3 => k_inst); (case k4 => k_is); (case k5 => k_is); (case k6 => k_is); (case k7 => first | exact (buf_noM (by assumption)).1 | exact (buf_noM (by assumption)).2 | fail "m"); k_whole)))

section
variable {w : World} {dp un : Nat} {gd : Option (List Code)} {L a : Addr} {ccd : Value} {outer : List Env} {A₀ : Around} {base h₀ : Heap} {mg mb u : Str → Option Value} {s : Shared} {loose : List Str} {mean : ExcName → Option Value} {Q : Flow → Shared → Prop} {E : Value → Shared → Prop}

set_option maxHeartbeats 8000000 in
theorem law_13 {l D : Addr} {oc : Obj} {k : Int} {tkk : Tok} {nd cl : Nat} {dz : List Value} {dn : List Int} {v vd sg kp tv td bf bd gp gd' ce mk md rw ls : Addr} {ves tes es ges : List DictEntry} {ys zs cs : List Value} {ns rs : List Int} {b rm gs ge pt zv : Int} {tb : Tok} {c1 c2 c c8 : Nat} {hh : Int} {th : Tok} {orw : Obj} 
    (B : Below A₀ base outer h₀) (F : Fr h₀ L s.heap (fun y => if y = Str.ofString "own_buffer" then some (.ref bf) else if y = Str.ofString "own_text" then some (.ref tv) else if y = Str.ofString "signs" then some (.ref sg) else if y = Str.ofString "kept" then some (.ref kp) else if y = Str.ofString "own_view" then some (.ref v) else if y = Str.ofString "first" then some (.int b tb) else u y)) (X : (hd.heap_39 w.params).In h₀) (N : News h₀ L s.heap [(L + 1, oc), (D, listOf #[.ref l, .int k tkk] nd), (l, listOf dz.toArray cl), (v, instObj 88 vd), (vd, dictOf ves 2), (sg, listOf ys.toArray c1), (kp, listOf zs.toArray c2), (tv, instObj 130 td), (td, dictOf tes 3), (bf, instObj 478 bd), (bd, dictOf es 20), (gp, instObj 267 gd'), (gd', dictOf ges 4), (ce, listOf cs.toArray c), (mk, instObj 337 md), (md, dictOf [⟨hh, .str (Str.ofString "rows") th, .ref rw⟩] 1), (rw, orw), (ls, listOf #[] c8)]) (T : Top hd.view_39 loose mean mg mb h₀) (hdp : dp + 40 < recursionLimit) (hun : un + 1000 < cLine)
    (hoc : oc.data = .cell (some (.ref D))) (hdi : IntsAre dz dn) (hdl : dn.length ≤ 63) (hk0 : 0 ≤ k) (hk1 : k ≤ 300) (ho : Asc [L + 1, D, kp, vd, v, bd, bf, gd', gp, ce, md, mk, rw, ls, td, tv] ∧ @LT.lt Nat _ (l) D ∧ @LT.lt Nat _ (sg) kp) (hsg : Apart D sg) (hrw : (rw == sysModules) = false) (hd1 : orw.IsDictOf (strKind PySem.Challenge.rw_oj0027_01.row.prog w) []) (hd2 : orw.IsDictOf (intKind PySem.Challenge.rw_oj0027_01.row.prog w) []) (hd3 : PyProof.V.FlatPairs PyData.int [] []) (hd4 : PyProof.V.FlatPairs PyData.str [] []) (hv : BufEs gp mk ls pt 1 zv es) (hzv : zv = ns.length + 1) (htv : TextEs bf tes) (hge : GapEs ges rm ce gs ge) (hg : GapHas rs gs ge ns) (hvw : ViewAt 88 ves sg b) (hi1 : IntsAre ys ns) (hi2 : IntsAre zs ns) (hi3 : IntsAre cs rs) (hl1 : ns.length ≤ 20) (hl3 : rs.length ≤ 50) (hrm : 0 ≤ rm) (hrm1 : rm ≤ 20) (hb0 : 0 ≤ b) (hb1 : b ≤ 100)
    (hQ : ∀ h' tk' m', Fr h₀ L h' m' → Q (.ret (.bool true)) { s with heap := h', toks := tk' }) :
    wpAny (model PySem.Challenge.rw_oj0027_01.row.prog w) (ktrTop dp un gd (Str.ofString "law") lawScope L a ccd [(Str.ofString "deck", L + 1)] outer) (execs (lawBody.drop 13) (envX (Str.ofString "law") lawScope L a ccd [(Str.ofString "deck", L + 1)])) Q E s := by
  obtain ⟨ho, ho1, ho2⟩ := ho
  show wpAny (model PySem.Challenge.rw_oj0027_01.row.prog w) (ktrTop dp un gd (Str.ofString "law") { kind := _, names := _, isGenerator := _, isCoroutine := _, more := _ } L a ccd [(Str.ofString "deck", L + 1)] outer) (execs ([_, _, _, _] ++ lawBody.drop 17) (envX (Str.ofString "law") { kind := _, names := _, isGenerator := _, isCoroutine := _, more := _ } L a ccd [(Str.ofString "deck", L + 1)])) Q E s
  refine execs_cut ?_
  subst hzv
  (repeat' (first
    | (k_here; k_dflt ((with_reducible show wpAny _ _ (call (Value.ref _) _) _ _ _); first
      | ((with_reducible show wpAny _ _ (call (Value.ref 607) _) _ _ _); apply draw_call; (case hk => first | exact rfl | assumption); (case B => k_asm); (case F => k_asm); (case X => k_asm); (case N => k_asm); (case T => k_asm); (case hdp => ktr_room); (case hun => units_room); (case hD => k_mem); (case hl => k_mem); (case hne => k_ne); (case hi => assumption); (case hlen => assumption); (case hk0 => walk_at "MINE om"); (case hk1 => walk_at "MINE om"); (case hm0 => walk_at "MINE om"); (case hm1 => walk_at "MINE om"); k_whole; intro r₉ tr₉ t₉ h₉ tk₉ hr0₉ hr1₉ F₉ hN₉; (have N₉ := hN₉ _ (updF_done (by k_updF) _)); clear hN₉; (try dsimp only at N₉))
      | ((with_reducible show wpAny _ _ (call (Value.ref 571) _) _ _ _); apply buf_insert_at; (case hk => first | exact rfl | assumption); (case B => k_asm); (case F => k_asm); (case X => k_asm); (case N => k_asm); (case T => k_asm); (case hdp => ktr_room); (case hun => units_room); (case hv => assumption); (case hge => assumption); (case ks' => lcg_sub); (case ks => lcg_sub); (case hg => assumption); (case hi => assumption); (case ho => first | assumption | (walk_at "MINE ord")); (case hlen => walk_at "MINE om"); (case hrm => walk_at "MINE om"); (case hrm1 => walk_at "MINE om"); (case hrw => assumption); (case hd1 => assumption); (case hd2 => assumption); (case hd3 => assumption); (case hd4 => assumption); (case hi2 => first | assumption | l_intsW | exact IntsAre.cons _ _ IntsAre.nil); (case hms => first | exact Nat.le_of_ble_eq_true rfl | walk_at "MINE om"); (case hcd => first | assumption | exact Or.inr (Under.lt (by assumption) (by walk_at "MINE at")) | exact Or.inl (Under.lt (by assumption) (by walk_at "MINE at")) | (simp only [Asc, AscB, Under] at *; walk_at "MINE om")); (case hbv => first | exact rfl | assumption); (case hzv => first | exact rfl | assumption); (case hp0 => walk_at "MINE om"); (case hp => walk_at "MINE om"); k_whole; intro h₉ tk₉ es₉ pt₉ zv₉ ges₉ gs₉ ge₉ ws₉ rs₉ c₉ tx₉ htx₉ hzv₉ hes₉ hge₉ hi₉ hl₉ hg₉ F₉ hN₉; (have N₉ := hN₉ _ (upd3_done ⟨_, by k_updF, fun _ => ⟨_, by k_updF, fun _ => by k_updF⟩⟩ _ _ _)); clear hN₉; (try dsimp only at N₉); (have hlx₉ := len_ins htx₉); (simp only [List.length_cons, List.length_nil] at hlx₉); subst hzv₉; (simp only [List.length_cons, List.length_nil] at hl₉))
      | ((with_reducible show wpAny _ _ (call (Value.ref 586) _) _ _ _); apply buf_delete; (case hk => first | exact rfl | assumption); (case B => k_asm); (case F => k_asm); (case X => k_asm); (case N => k_asm); (case T => k_asm); (case hdp => ktr_room); (case hun => units_room); (case hv => assumption); (case hge => assumption); (case ks' => lcg_sub); (case ks => lcg_sub); (case hg => assumption); (case hi => assumption); (case ho => first | assumption | (walk_at "MINE ord")); (case hlen => walk_at "MINE om"); (case hrm => walk_at "MINE om"); (case hrm1 => walk_at "MINE om"); (case hrw => assumption); (case hd1 => assumption); (case hd2 => assumption); (case hd3 => assumption); (case hd4 => assumption); (case hbv => first | exact rfl | assumption); (case hzv => first | exact rfl | assumption); (case hp0 => walk_at "MINE om"); (case hpq => walk_at "MINE om"); (case hq => walk_at "MINE om"); k_whole; intro v₉ h₉ tk₉ es₉ pt₉ zv₉ ges₉ gs₉ ge₉ ws₉ rs₉ c₉ tx₉ htx₉ hzv₉ hes₉ hge₉ hi₉ hl₉ hg₉ F₉ hN₉; (have N₉ := hN₉ _ (upd3_done ⟨_, by k_updF, fun _ => ⟨_, by k_updF, fun _ => by k_updF⟩⟩ _ _ _)); clear hN₉; (try dsimp only at N₉); (have hlx₉ := len_del htx₉ (by decide)); subst hzv₉)
      | ((with_reducible show wpAny _ _ (call (Value.ref 440) _) _ _ _); apply buf_codes; (case hk => first | exact rfl | assumption); (case B => k_asm); (case F => k_asm); (case X => k_asm); (case N => k_asm); (case T => k_asm); (case hdp => ktr_room); (case hun => units_room); (case hv => assumption); (case hge => assumption); (case ks => lcg_sub); (case hg => assumption); (case hi => assumption); (case hlen => walk_at "MINE om"); (case hp => walk_at "MINE om"); (case hpq => walk_at "MINE om"); (case hq => walk_at "MINE om"); k_whole; intro D₉ ws₉ c₉ h₉ tk₉ hi₉ hap₉ F₉ N₉; (try rw [whole_window] at hi₉))
      | ((with_reducible show wpAny _ _ (call (Value.ref 426) _) _ _ _); apply buf_size; (case hk => first | exact rfl | assumption); (case B => k_asm); (case F => k_asm); (case X => k_asm); (case N => k_asm); (case T => k_asm); (case hdp => ktr_room); (case hun => units_room); (case hv => assumption); (case hge => assumption); (case ks => lcg_sub); (case hg => assumption); (case hi => assumption); (case hlen => walk_at "MINE om"); k_whole; intro t₉ h₉ tk₉ F₉ N₉; skip)
      | ((with_reducible show wpAny _ _ (call (Value.ref 612) _) _ _ _); apply text_text; (case hk => first | exact rfl | assumption); (case B => k_asm); (case F => k_asm); (case X => k_asm); (case N => k_asm); (case T => k_asm); (case hdp => ktr_room); (case hun => units_room); (case hv => assumption); (case htv => assumption); (case hge => assumption); (case ks => lcg_sub); (case hi => assumption); (case hg => assumption); (case hi2 => assumption); (case hss => first | assumption | exact whole_window _ | exact window_slice (by walk_at "MINE om") (by walk_at "MINE om") (by walk_at "MINE om") | fail "hss"); (case hzv => walk_at "MINE om"); (case hlen => walk_at "MINE om"); (case hb => walk_at "MINE om"); (case hz => walk_at "MINE om"); (case hbv => walk_at "MINE om"); (case hss1 => walk_at "MINE om"); k_whole; intro h₉ tk₉ F₉ N₉; skip)
      ); (try dsimp only); (try k_fold))
    | (k_unfold; (try dsimp only)) | (k_end; wrow_close) | walk1 | (dsimp only; walk1) | (leave1; walk_say "STEP leave1"; try dsimp only) | fail "no step"))
  all_goals (try dsimp only)
  all_goals (
    refine Rest.mk ?_
    rename Fr _ _ _ _ => F9
    rename News _ _ _ _ => N9
    rename BufEs _ _ _ _ _ _ _ => hb9
    rename GapEs _ _ _ _ _ => he9
    rename GapHas _ _ _ _ => hg9
    rename IntsAre _ _ => hi9
    rename (∀ r ∈ _, Apart _ _) => hap9
    refine law_17 B (fr_put (fr_put (fr_put (fr_put (fr_put (fr_put (fr_put F9 (x := Str.ofString "first") rfl) (x := Str.ofString "own_view") rfl) (x := Str.ofString "kept") rfl) (x := Str.ofString "signs") rfl) (x := Str.ofString "own_whole") rfl) (x := Str.ofString "own_text") rfl) (x := Str.ofString "own_buffer") rfl) X (news_sub N9 (by lcg_sub)) T hdp hun hoc hdi hdl (by walk_at "MINE om") (by walk_at "MINE om") (by walk_at "MINE ord") hsg hb9 htv he9 hg9 hvw hi1 hi2 (by assumption) hi9 (by walk_at "MINE om") (by walk_at "MINE om") (by walk_at "MINE om") hb0 hb1 (hap9 (bd, _) (by k_mem)) (hap9 (D, _) (by k_mem)) (fun h' tk' m' F' => hQ h' tk' m' F'))
end
end PartLaw6

section PartLaw5
section
variable {w : World} {dp un : Nat} {gd : Option (List Code)} {L a : Addr} {ccd : Value} {outer : List Env} {A₀ : Around} {base h₀ : Heap} {mg mb u : Str → Option Value} {s : Shared} {loose : List Str} {mean : ExcName → Option Value} {Q : Flow → Shared → Prop} {E : Value → Shared → Prop}

set_option maxHeartbeats 8000000 in
theorem law_9 {l D : Addr} {oc : Obj} {k : Int} {tkk : Tok} {nd cl : Nat} {dz : List Value} {dn : List Int} {v vd sg kp : Addr} {ves : List DictEntry} {ys zs : List Value} {ns : List Int} {b : Int} {tb : Tok} {c1 c2 : Nat} 
    (B : Below A₀ base outer h₀) (F : Fr h₀ L s.heap (fun y => if y = Str.ofString "signs" then some (.ref sg) else if y = Str.ofString "kept" then some (.ref kp) else if y = Str.ofString "own_view" then some (.ref v) else if y = Str.ofString "first" then some (.int b tb) else u y)) (X : (hd.heap_39 w.params).In h₀) (N : News h₀ L s.heap [(L + 1, oc), (D, listOf #[.ref l, .int k tkk] nd), (l, listOf dz.toArray cl), (v, instObj 88 vd), (vd, dictOf ves 2), (sg, listOf ys.toArray c1), (kp, listOf zs.toArray c2)]) (T : Top hd.view_39 loose mean mg mb h₀) (hdp : dp + 40 < recursionLimit) (hun : un + 1000 < cLine)
    (hoc : oc.data = .cell (some (.ref D))) (hdi : IntsAre dz dn) (hdl : dn.length ≤ 63) (hk0 : 0 ≤ k) (hk1 : k ≤ 200) (ho : Asc [L + 1, D, kp, vd, v] ∧ @LT.lt Nat _ (l) D ∧ @LT.lt Nat _ (sg) kp) (hsg : Apart D sg) (hvw : ViewAt 88 ves sg b) (hi1 : IntsAre ys ns) (hi2 : IntsAre zs ns) (hl1 : ns.length ≤ 20) (hb0 : 0 ≤ b) (hb1 : b ≤ 100)
    (hQ : ∀ h' tk' m', Fr h₀ L h' m' → Q (.ret (.bool true)) { s with heap := h', toks := tk' }) :
    wpAny (model PySem.Challenge.rw_oj0027_01.row.prog w) (ktrTop dp un gd (Str.ofString "law") lawScope L a ccd [(Str.ofString "deck", L + 1)] outer) (execs (lawBody.drop 9) (envX (Str.ofString "law") lawScope L a ccd [(Str.ofString "deck", L + 1)])) Q E s := by
  obtain ⟨ho, ho1, ho2⟩ := ho
  show wpAny (model PySem.Challenge.rw_oj0027_01.row.prog w) (ktrTop dp un gd (Str.ofString "law") { kind := _, names := _, isGenerator := _, isCoroutine := _, more := _ } L a ccd [(Str.ofString "deck", L + 1)] outer) (execs ([_, _, _, _] ++ lawBody.drop 13) (envX (Str.ofString "law") { kind := _, names := _, isGenerator := _, isCoroutine := _, more := _ } L a ccd [(Str.ofString "deck", L + 1)])) Q E s
  refine execs_cut ?_
  (repeat' (first
    | (with_reducible refine toks_off ?_; intro tk₉)
    | (k_here; k_dflt ((with_reducible show wpAny _ _ (call (Value.ref _) _) _ _ _); first
      | ((with_reducible show wpAny _ _ (call (Value.ref 579) _) _ _ _); apply buf_insert0; (case hk => first | exact rfl | assumption); (case B => k_asm); (case F => k_asm); (case X => k_asm); (case N => k_asm); (case T => k_asm); (case hdp => ktr_room); (case hun => units_room); (case hbf => k_mem); (case hbd => k_mem); (case hv => exact BufEs.mk ..); (case hgp => k_mem); (case hgd => k_mem); (case hge => first | assumption | exact ⟨_, _, _, _, _, _, _, _, _, _, _, rfl⟩); (case hce => k_mem); (case hls => k_mem); (case hmk => k_mem); (case hmd => k_mem); (case hrw9 => k_mem); (case hcd9 => k_mem); (case hi => first | assumption | l_intsW | l_ints); (case hlen => rfl); (case hrm => decide); (case hrm1 => decide); (case hi2 => assumption); (case hms => walk_at "MINE om"); (case hrw => assumption); (case hd1 => assumption); (case hd2 => assumption); (case hd3 => assumption); (case hd4 => assumption); (case ho => first | assumption | (walk_at "MINE ord")); (case hcd => first | assumption | exact Or.inr (Under.lt (by assumption) (by walk_at "MINE at")) | exact Or.inl (Under.lt (by assumption) (by walk_at "MINE at")) | (simp only [Asc, AscB, Under] at *; walk_at "MINE om")); k_whole; intro h₉ tk₉ es₉ pt₉ ges₉ gs₉ ge₉ ws₉ rs₉ c₉ hes₉ hge₉ hi₉ hl₉ hg₉ F₉ hN₉; (have N₉ := hN₉ _ (upd3_done ⟨_, by k_updF, fun _ => ⟨_, by k_updF, fun _ => by k_updF⟩⟩ _ _ _)); clear hN₉; (try dsimp only at N₉))
      | ((with_reducible show wpAny _ _ (call (Value.ref 612) _) _ _ _); apply text_text; (case hk => first | exact rfl | assumption); (case B => k_asm); (case F => k_asm); (case X => k_asm); (case N => k_asm); (case T => k_asm); (case hdp => ktr_room); (case hun => units_room); (case hv => assumption); (case hge => assumption); (case ks => lcg_sub); (case htv => first | assumption | exact ⟨_, _, _, _, _, _, _, _, rfl⟩); (case hi => assumption); (case hg => assumption); (case hi2 => assumption); (case hss => first | assumption | exact whole_window _ | exact window_slice (by walk_at "MINE om") (by walk_at "MINE om") (by walk_at "MINE om") | fail "hss"); (case hzv => walk_at "MINE om"); (case hlen => walk_at "MINE om"); (case hb => walk_at "MINE om"); (case hz => walk_at "MINE om"); (case hbv => walk_at "MINE om"); (case hss1 => walk_at "MINE om"); k_whole; intro h₉ tk₉ F₉ N₉; skip)
      | ((with_reducible show wpAny _ _ (call (Value.ref 619) _) _ _ _); apply plain_view; (case hk => first | exact rfl | assumption); (case B => k_asm); (case F => k_asm); (case X => k_asm); (case N => k_asm); (case T => k_asm); (case hdp => ktr_room); (case hun => units_room); (case ks => lcg_sub); (case hv => first | assumption | exact Or.inr ⟨rfl, _, _, _, _, _, _, _, _, _, rfl⟩ | exact Or.inl ⟨rfl, _, _, _, _, _, _, rfl⟩); k_whole; intro h₉ tk₉ F₉ N₉; skip)
      ); (try dsimp only); (try k_fold))
    | (k_unfold; (try dsimp only)) | (k_end; wrow_close) | walk1 | (dsimp only; walk1) | (leave1; walk_say "STEP leave1"; try dsimp only) | fail "no step"))
  all_goals (try dsimp only)
  all_goals (
    refine Rest.mk ?_
    rename Fr _ _ _ _ => F9
    rename News _ _ _ _ => N9
    rename BufEs _ _ _ _ _ _ _ => hb9
    rename GapEs _ _ _ _ _ => he9
    rename GapHas _ _ _ _ => hg9
    refine law_13 B (fr_put (fr_put (fr_put (fr_put (fr_put (fr_put F9 (x := Str.ofString "first") rfl) (x := Str.ofString "own_view") rfl) (x := Str.ofString "kept") rfl) (x := Str.ofString "signs") rfl) (x := Str.ofString "own_text") rfl) (x := Str.ofString "own_buffer") rfl) X (news_sub N9 (by lcg_sub)) T hdp hun hoc hdi hdl hk0 (by walk_at "MINE om") (by walk_at "MINE ord") hsg (by assumption) (by assumption) (by assumption) (by assumption) (by assumption) hb9 rfl ⟨_, _, _, _, _, _, _, _, rfl⟩ he9 hg9 hvw hi1 hi2 (by assumption) hl1 (by walk_at "MINE om") (by decide) (by decide) hb0 hb1 (fun h' tk' m' F' => hQ h' tk' m' F'))
end
end PartLaw5

section PartLaw4
local macro_rules | `(tactic| walk_at "getMethod ref") => `(tactic| (k_here; (with_reducible show wpAny _ _ (getMethod (Value.ref _) (Str.ofString "get") _) _ _ _); k_dflt (refine' kdg_method (knd := PySem.intKind _ _) ?N ?hp ?hd ?_; (case N => k_asm); (case hp => k_mem); (case hd => k_asm); k_whole)))

theorem told_noM {d0 d1 d2 d3 : Addr} {es : List DictEntry} (hv : ToldEs d0 d1 d2 d3 es) : getL (Str.ofString "faces_at") es = some none ∧ getL (Str.ofString "hidden_at") es = some none ∧ getL (Str.ofString "shown_at") es = some none ∧ getL (Str.ofString "strings_at") es = some none := by
  obtain ⟨h1, t1, v1, h2, t2, v2, h3, t3, h4, t4, h5, t5, h6, t6, rfl⟩ := hv
  exact ⟨rfl, rfl, rfl, rfl⟩
local macro_rules | `(tactic| walk_at "getMethod ref") => `(tactic| (k_here; k_dflt (refine' method_inst ?k1 ?k2 ?k3 ?k4 ?k5 ?k6 ?k7 ?_; (case k1 => k_asm); (case k2 => k_asm); (case k3 => k_inst); (case k4 => k_is); (case k5 => k_is); (case k6 => k_is); (case k7 => first | exact (told_noM (by assumption)).1 | exact (told_noM (by assumption)).2.1 | exact (told_noM (by assumption)).2.2.1 | exact (told_noM (by assumption)).2.2.2 | fail "m"); k_whole)))

theorem item_at {prog : Program} {w : World} {A : Around} {E : Value → Shared → Prop} {s : Shared} {h₀ : Heap} {L : Addr} {news : List (Addr × Obj)} {value slice : PySem.Expr} {l : Addr} {vs : Array Value} {n : Nat} {k : Int} {v : Value} {u : Tok} {Q : Value → Shared → Prop} (N : News h₀ L s.heap news) (hm : (l, listOf vs n) ∈ news)
    (h0 : 0 ≤ k) (hfit : k < 2 ^ 63) (hv : vs[k.toNat]? = some v) (h : Q v s)
    (hs : subscripted slice false (.ref l) (.int k u) = operate [.ref l, .int k u] (getItem (.ref l) (.int k u)) := by with_unfolding_all rfl) :
    wpAny (model prog w) A (subscriptTail value slice (.ref l) (.int k u)) Q E s := by
  have hl : s.heap.IsList l vs := ⟨_, (N _ hm).1, rfl, n, rfl⟩
  exact tail_any hl.typeIs slot_list_getitem.lookup (wpAny_getItem_list hl h0 hfit hv h) hs
local macro_rules | `(tactic| walk_at "subscriptTail Name Constant ref int") => `(tactic| (k_here; k_dflt (refine' item_at ?N ?hm ?h0 ?hf ?hv ?_; (case N => k_asm); (case hm => k_mem); (case h0 => decide); (case hf => decide); (case hv => exact (rfl : some (Value.ref _) = some (Value.ref _))); k_whole)))
local macro_rules | `(tactic| walk_at "call builtin:dict.get") => `(tactic| (k_here; k_dflt (refine' kdg_get2 (knd := PySem.intKind _ _) ?N ?hp ?hd ?lo ?key _ rfl ?_; (case N => k_asm); (case hp => k_mem); (case hd => k_asm); (case lo => k_asm); (case key => exact intKind_is _ _ _ _); k_whole)))
local macro_rules | `(tactic| walk_at "exec For Name Call cons nil") => `(tactic| (k_here; (with_reducible show wpAny _ _ (exec (Stmt.For _ _ _ [] _) _) _ _ _); (rename Fr _ _ _ _ => lF'); (with_unfolding_all refine' For_invVF lF' ?k1 ?k2 ?_; (case k1 => exact rfl); (case k2 => exact rfl); k_whole)))
local macro_rules | `(tactic| walk_at "pyIter ref") => `(tactic| (k_here; (rename Fr _ _ _ _ => lF'); (rename News _ _ _ _ => lN'); (rename IsRange _ _ _ _ _ _ _ _ => rgX); (with_unfolding_all refine' iter_rangeLawO [Str.ofString "due", Str.ofString "heard"] (by rfl) (by first | exact rgX | assumption) (by decide) (by rfl) lF' lN' (fun k' t' u' h' tk' o' hlt' hlo' hhi' F' N' => ?_) (fun u' h' tk' F' N' => ?_)); (all_goals (try clear lF' lN')); (all_goals (try clear hlt' rgX))))
local macro_rules | `(tactic| walk_at "TurnEnd") => `(tactic| (refine TurnEnd.intro (by assumption) (by assumption) (by lcg_sub) (fun y h1 h2 => turn_same h1 h2)))
local macro_rules | `(tactic| walk_at "compareOp NotEq ref ref") => `(tactic| (k_here; k_dflt (refine' ne_four ?hl ?hb ?hu ?e0 ?e1 ?e2 ?e3 ?_; (case hl => is_list); (case hb => is_list); (case hu => units_room); (case e0 => exact eqAt_getD (eqAt_nil ⟨_, News.get (by k_asm) (by k_mem), rfl, _, rfl⟩ ⟨_, News.get (by k_asm) (by k_mem), rfl, _, rfl⟩ (by units_room))); (case e1 => exact eqAt_getD (SeqAt.EqAt.int_int _ _ _ _)); (case e2 => exact SeqAt.EqAt.same _); (case e3 => exact eqAt_getD (eqAt_nil ⟨_, News.get (by k_asm) (by k_mem), rfl, _, rfl⟩ ⟨_, News.get (by k_asm) (by k_mem), rfl, _, rfl⟩ (by units_room))); k_whole)))

section
variable {w : World} {dp un : Nat} {gd : Option (List Code)} {L a : Addr} {ccd : Value} {outer : List Env} {A₀ : Around} {base h₀ : Heap} {mg mb u : Str → Option Value} {s : Shared} {loose : List Str} {mean : ExcName → Option Value} {Q : Flow → Shared → Prop} {E : Value → Shared → Prop}

set_option maxHeartbeats 8000000 in
theorem law_8 {l D : Addr} {oc : Obj} {k : Int} {tkk : Tok} {nd cl : Nat} {dz : List Value} {dn : List Int} {v vd sg kp : Addr} {ves : List DictEntry} {ys zs : List Value} {ns : List Int} {b : Int} {tb : Tok} {c1 c2 : Nat} {r rd tb9 d0 d1 d2 d3 : Addr} {res : List DictEntry} {o0 o1 o2 o3 : Obj} {kv0 kv1 kv2 kv3 : List (Int × Value)} {c3 : Nat} 
    (B : Below A₀ base outer h₀) (F : Fr h₀ L s.heap (fun y => if y = Str.ofString "signs" then some (.ref sg) else if y = Str.ofString "kept" then some (.ref kp) else if y = Str.ofString "own_view" then some (.ref v) else if y = Str.ofString "first" then some (.int b tb) else if y = Str.ofString "rich" then some (.ref r) else if y = Str.ofString "tables" then some (.ref tb9) else u y)) (X : (hd.heap_39 w.params).In h₀) (N : News h₀ L s.heap [(L + 1, oc), (D, listOf #[.ref l, .int k tkk] nd), (l, listOf dz.toArray cl), (v, instObj 88 vd), (vd, dictOf ves 2), (sg, listOf ys.toArray c1), (kp, listOf zs.toArray c2), (r, instObj 178 rd), (rd, dictOf res 6), (tb9, listOf #[.ref d0, .ref d1, .ref d2, .ref d3] c3), (d0, o0), (d1, o1), (d2, o2), (d3, o3)]) (T : Top hd.view_39 loose mean mg mb h₀) (hdp : dp + 40 < recursionLimit) (hun : un + 1000 < cLine)
    (hoc : oc.data = .cell (some (.ref D))) (hdi : IntsAre dz dn) (hdl : dn.length ≤ 63) (hk0 : 0 ≤ k) (hk1 : k ≤ 200) (ho : Asc [L + 1, D, kp, vd, v] ∧ @LT.lt Nat _ (l) D ∧ @LT.lt Nat _ (sg) kp) (hsg : Apart D sg) (hrt : ToldEs d0 d1 d2 d3 res) (hd0 : o0.IsDictOf (PySem.intKind PySem.Challenge.rw_oj0027_01.row.prog w) kv0) (hs0 : (d0 == sysModules) = false) (hd1 : o1.IsDictOf (PySem.intKind PySem.Challenge.rw_oj0027_01.row.prog w) kv1) (hs1 : (d1 == sysModules) = false) (hd2 : o2.IsDictOf (PySem.intKind PySem.Challenge.rw_oj0027_01.row.prog w) kv2) (hs2 : (d2 == sysModules) = false) (hd3 : o3.IsDictOf (PySem.intKind PySem.Challenge.rw_oj0027_01.row.prog w) kv3) (hs3 : (d3 == sysModules) = false) (hvw : ViewAt 88 ves sg b) (hpl : PlainAt 88 ves) (hi1 : IntsAre ys ns) (hi2 : IntsAre zs ns) (hl1 : ns.length ≤ 20) (hb0 : 0 ≤ b) (hb1 : b ≤ 100)
    (hQ : ∀ h' tk' m', Fr h₀ L h' m' → Q (.ret (.bool true)) { s with heap := h', toks := tk' }) :
    wpAny (model PySem.Challenge.rw_oj0027_01.row.prog w) (ktrTop dp un gd (Str.ofString "law") lawScope L a ccd [(Str.ofString "deck", L + 1)] outer) (execs (lawBody.drop 8) (envX (Str.ofString "law") lawScope L a ccd [(Str.ofString "deck", L + 1)])) Q E s := by
  obtain ⟨ho, ho1, ho2⟩ := ho
  show wpAny (model PySem.Challenge.rw_oj0027_01.row.prog w) (ktrTop dp un gd (Str.ofString "law") { kind := _, names := _, isGenerator := _, isCoroutine := _, more := _ } L a ccd [(Str.ofString "deck", L + 1)] outer) (execs ([_] ++ lawBody.drop 9) (envX (Str.ofString "law") { kind := _, names := _, isGenerator := _, isCoroutine := _, more := _ } L a ccd [(Str.ofString "deck", L + 1)])) Q E s
  refine wpAny_noRaise ?_
  refine execs_cut ?_
  (repeat' (first
    | (k_here; k_dflt ((with_reducible show wpAny _ _ (call (Value.ref _) _) _ _ _); first
      | ((with_reducible show wpAny _ _ (call (Value.ref 154) _) _ _ _); apply told_faces; (case hk => first | exact rfl | assumption); (case B => k_asm); (case F => k_asm); (case X => k_asm); (case N => k_asm); (case T => k_asm); (case hdp => ktr_room); (case hun => units_room); (case hv => assumption); (case ks => lcg_sub); (case hd => assumption); (case hlo => assumption); k_whole; intro D₉ h₉ tk₉ F₉ N₉; skip)
      | ((with_reducible show wpAny _ _ (call (Value.ref 161) _) _ _ _); apply told_hidden; (case hk => first | exact rfl | assumption); (case B => k_asm); (case F => k_asm); (case X => k_asm); (case N => k_asm); (case T => k_asm); (case hdp => ktr_room); (case hun => units_room); (case hv => assumption); (case ks => lcg_sub); (case hd => assumption); (case hlo => assumption); k_whole; intro t₉ h₉ tk₉ F₉ N₉; skip)
      | ((with_reducible show wpAny _ _ (call (Value.ref 168) _) _ _ _); apply told_shown; (case hk => first | exact rfl | assumption); (case B => k_asm); (case F => k_asm); (case X => k_asm); (case N => k_asm); (case T => k_asm); (case hdp => ktr_room); (case hun => units_room); (case hv => assumption); (case ks => lcg_sub); (case hd => assumption); (case hlo => assumption); k_whole; intro h₉ tk₉ F₉ N₉; skip)
      | ((with_reducible show wpAny _ _ (call (Value.ref 175) _) _ _ _); apply told_strings; (case hk => first | exact rfl | assumption); (case B => k_asm); (case F => k_asm); (case X => k_asm); (case N => k_asm); (case T => k_asm); (case hdp => ktr_room); (case hun => units_room); (case hv => assumption); (case ks => lcg_sub); (case hd => assumption); (case hlo => assumption); k_whole; intro D₉ h₉ tk₉ F₉ N₉; skip)
      | ((with_reducible show wpAny _ _ (call (Value.ref 619) _) _ _ _); apply plain_view; (case hk => first | exact rfl | assumption); (case B => k_asm); (case F => k_asm); (case X => k_asm); (case N => k_asm); (case T => k_asm); (case hdp => ktr_room); (case hun => units_room); (case ks => lcg_sub); (case hv => first | assumption | exact Or.inr ⟨rfl, _, _, _, _, _, _, _, _, _, rfl⟩ | exact Or.inl ⟨rfl, _, _, _, _, _, _, rfl⟩); k_whole; intro h₉ tk₉ F₉ N₉; skip)
      ); (try dsimp only); (try k_fold))
    | (k_unfold; (try dsimp only)) | (k_end; wrow_close) | walk1 | (dsimp only; walk1) | (leave1; walk_say "STEP leave1"; try dsimp only) | fail "no step"))
  all_goals (try dsimp only)
  refine Rest.mk ?_
  rename Fr _ _ _ _ => F9
  rename News _ _ _ _ => N9
  refine law_9 B (fr_put (fr_put (fr_put (fr_put F9 (x := Str.ofString "first") rfl) (x := Str.ofString "own_view") rfl) (x := Str.ofString "kept") rfl) (x := Str.ofString "signs") rfl) X (news_sub N9 (by lcg_sub)) T hdp hun hoc hdi hdl hk0 hk1 (by walk_at "MINE ord") hsg hvw hi1 hi2 hl1 hb0 hb1 (fun h' tk' m' F' => hQ h' tk' m' F')
end
end PartLaw4

section PartP7
section
variable {w : World} {dp un : Nat} {gd : Option (List Code)} {L a : Addr} {ccd : Value} {outer : List Env} {A₀ : Around} {base h₀ : Heap} {mg mb u : Str → Option Value} {s : Shared} {loose : List Str} {mean : ExcName → Option Value} {Q : Flow → Shared → Prop} {E : Value → Shared → Prop}

set_option maxHeartbeats 8000000 in
theorem law_7 {l D : Addr} {oc : Obj} {k : Int} {tkk : Tok} {nd cl : Nat} {dz : List Value} {dn : List Int} {v vd sg kp : Addr} {ves : List DictEntry} {ys zs : List Value} {ns : List Int} {b : Int} {tb : Tok} {c1 c2 : Nat} {r rd tb9 d0 d1 d2 d3 f0 f1 f2 f3 : Addr} {res : List DictEntry} {o0 o1 o2 o3 : Obj} {kv0 kv1 kv2 kv3 : List (Int × Value)} {c3 : Nat} 
    (B : Below A₀ base outer h₀) (F : Fr h₀ L s.heap (fun y => if y = Str.ofString "signs" then some (.ref sg) else if y = Str.ofString "kept" then some (.ref kp) else if y = Str.ofString "own_view" then some (.ref v) else if y = Str.ofString "first" then some (.int b tb) else if y = Str.ofString "rich" then some (.ref r) else if y = Str.ofString "tables" then some (.ref tb9) else u y)) (X : (hd.heap_39 w.params).In h₀) (N : News h₀ L s.heap [(L + 1, oc), (D, listOf #[.ref l, .int k tkk] nd), (l, listOf dz.toArray cl), (v, instObj 88 vd), (vd, dictOf ves 2), (sg, listOf ys.toArray c1), (kp, listOf zs.toArray c2), (r, instObj 178 rd), (rd, dictOf res 6), (tb9, listOf #[.ref d0, .ref d1, .ref d2, .ref d3] c3), (d0, o0), (d1, o1), (d2, o2), (d3, o3)]) (T : Top hd.view_39 loose mean mg mb h₀) (hdp : dp + 40 < recursionLimit) (hun : un + 1000 < cLine)
    (hoc : oc.data = .cell (some (.ref D))) (hdi : IntsAre dz dn) (hdl : dn.length ≤ 63) (hk0 : 0 ≤ k) (hk1 : k ≤ 200) (ho : Asc [L + 1, D, kp, vd, v, rd, r, d0, d1, d2, d3, tb9] ∧ @LT.lt Nat _ (l) D ∧ @LT.lt Nat _ (sg) kp) (hsg : Apart D sg) (hrt : ToldEs f0 f1 f2 f3 res) (hd0 : o0.IsDictOf (PySem.intKind PySem.Challenge.rw_oj0027_01.row.prog w) kv0) (hs0 : (d0 == sysModules) = false) (hd1 : o1.IsDictOf (PySem.intKind PySem.Challenge.rw_oj0027_01.row.prog w) kv1) (hs1 : (d1 == sysModules) = false) (hd2 : o2.IsDictOf (PySem.intKind PySem.Challenge.rw_oj0027_01.row.prog w) kv2) (hs2 : (d2 == sysModules) = false) (hd3 : o3.IsDictOf (PySem.intKind PySem.Challenge.rw_oj0027_01.row.prog w) kv3) (hs3 : (d3 == sysModules) = false) (hvw : ViewAt 88 ves sg b) (hpl : PlainAt 88 ves) (hi1 : IntsAre ys ns) (hi2 : IntsAre zs ns) (hl1 : ns.length ≤ 20) (hb0 : 0 ≤ b) (hb1 : b ≤ 100)
    (hQ : ∀ h' tk' m', Fr h₀ L h' m' → Q (.ret (.bool true)) { s with heap := h', toks := tk' }) :
    wpAny (model PySem.Challenge.rw_oj0027_01.row.prog w) (ktrTop dp un gd (Str.ofString "law") lawScope L a ccd [(Str.ofString "deck", L + 1)] outer) (execs (lawBody.drop 7) (envX (Str.ofString "law") lawScope L a ccd [(Str.ofString "deck", L + 1)])) Q E s := by
  obtain ⟨ho, ho1, ho2⟩ := ho
  show wpAny (model PySem.Challenge.rw_oj0027_01.row.prog w) (ktrTop dp un gd (Str.ofString "law") { kind := _, names := _, isGenerator := _, isCoroutine := _, more := _ } L a ccd [(Str.ofString "deck", L + 1)] outer) (execs ([_] ++ lawBody.drop 8) (envX (Str.ofString "law") { kind := _, names := _, isGenerator := _, isCoroutine := _, more := _ } L a ccd [(Str.ofString "deck", L + 1)])) Q E s
  refine wpAny_noRaise ?_
  refine execs_cut ?_
  obtain ⟨h1, t1, v1, h2, t2, v2, h3, t3, h4, t4, h5, t5, h6, t6, rfl⟩ := hrt
  k_steps
  all_goals (try dsimp only)
  refine Rest.mk ?_
  rename Fr _ _ _ _ => F9
  rename News _ _ _ _ => N9
  refine law_8 B (fr_put (fr_put (fr_put (fr_put (fr_put (fr_put F9 (x := Str.ofString "tables") rfl) (x := Str.ofString "rich") rfl) (x := Str.ofString "first") rfl) (x := Str.ofString "own_view") rfl) (x := Str.ofString "kept") rfl) (x := Str.ofString "signs") rfl) X (news_sub N9 (by lcg_sub)) T hdp hun hoc hdi hdl hk0 hk1 (by walk_at "MINE ord") hsg ⟨_, _, _, _, _, _, _, _, _, _, _, _, _, _, rfl⟩ hd0 hs0 hd1 hs1 hd2 hs2 hd3 hs3 hvw hpl hi1 hi2 hl1 hb0 hb1 (fun h' tk' m' F' => hQ h' tk' m' F')
end
end PartP7

section PartP6
local macro_rules | `(tactic| walk_at "exec For Name Call cons nil") => `(tactic| (k_here; (rename Fr _ _ _ _ => lF'); (with_unfolding_all refine' For_rest lF' ?k0 ?k1 ?k2 ?_; (case k0 => exact rfl); (case k1 => exact rfl); (case k2 => exact rfl); k_whole)))
local macro_rules | `(tactic| walk_at "subscriptTail List cons BinOp ref int") => `(tactic| (k_here; k_dflt (refine' item_any ?N ?hm ?h0 ?hf ?hl ?_; (case N => k_asm); (case hm => k_mem); (case h0 => walk_at "MINE om"); (case hf => walk_at "MINE om"); (case hl => (simp only [List.size_toArray, List.length_cons, List.length_nil]; walk_at "MINE om")); k_whole; intro v' hv'; clear hv')))
local macro_rules | `(tactic| walk_at "subscriptTail List cons Name ref int") => `(tactic| (k_here; k_dflt (refine' item_any ?N ?hm ?h0 ?hf ?hl ?_; (case N => k_asm); (case hm => k_mem); (case h0 => walk_at "MINE om"); (case hf => walk_at "MINE om"); (case hl => (simp only [List.size_toArray, List.length_cons, List.length_nil]; walk_at "MINE om")); k_whole; intro v' hv'; clear hv')))
local macro_rules | `(tactic| walk_at "subscriptTail Name Name ref int") => `(tactic| (k_here; k_dflt (refine' item_four ?N ?hm ?h0 ?h4 ?_ ?_ ?_ ?_; (case N => k_asm); (case hm => k_mem); (case h0 => walk_at "MINE om"); (case h4 => walk_at "MINE om"); k_whole)))
local macro_rules | `(tactic| walk_at "setItem ref int") => `(tactic| (k_here; k_dflt (refine' kda_set (knd := PySem.intKind _ _) ?F ?N ?U ?d (intKind_is _ _ _ _) ?z ?_; (case F => k_asm); (case N => k_asm); (case U => k_updF); (case d => k_asm); (case z => (rw [sizeLine_eq]; walk_at "MINE om")); k_whole; intro h' o' F' N' hd'; (try dsimp only at N'))))

section
variable {w : World} {dp un : Nat} {gd : Option (List Code)} {L a : Addr} {ccd : Value} {outer : List Env} {A₀ : Around} {base h₀ : Heap} {mg mb u : Str → Option Value} {s : Shared} {loose : List Str} {mean : ExcName → Option Value} {Q : Flow → Shared → Prop} {E : Value → Shared → Prop}

set_option maxHeartbeats 8000000 in
theorem law_6 {l D : Addr} {oc : Obj} {k : Int} {tkk : Tok} {nd cl : Nat} {dz : List Value} {dn : List Int} {v vd sg kp : Addr} {ves : List DictEntry} {ys zs : List Value} {ns : List Int} {b : Int} {tb : Tok} {c1 c2 : Nat} {r rd tb9 d0 d1 d2 d3 f0 f1 f2 f3 : Addr} {res : List DictEntry} {o0 o1 o2 o3 : Obj} {kv0 kv1 kv2 kv3 : List (Int × Value)} {c3 : Nat} 
    (B : Below A₀ base outer h₀) (F : Fr h₀ L s.heap (fun y => if y = Str.ofString "signs" then some (.ref sg) else if y = Str.ofString "kept" then some (.ref kp) else if y = Str.ofString "own_view" then some (.ref v) else if y = Str.ofString "first" then some (.int b tb) else if y = Str.ofString "rich" then some (.ref r) else if y = Str.ofString "tables" then some (.ref tb9) else u y)) (X : (hd.heap_39 w.params).In h₀) (N : News h₀ L s.heap [(L + 1, oc), (D, listOf #[.ref l, .int k tkk] nd), (l, listOf dz.toArray cl), (v, instObj 88 vd), (vd, dictOf ves 2), (sg, listOf ys.toArray c1), (kp, listOf zs.toArray c2), (r, instObj 178 rd), (rd, dictOf res 6), (tb9, listOf #[.ref d0, .ref d1, .ref d2, .ref d3] c3), (d0, o0), (d1, o1), (d2, o2), (d3, o3)]) (T : Top hd.view_39 loose mean mg mb h₀) (hdp : dp + 40 < recursionLimit) (hun : un + 1000 < cLine)
    (hoc : oc.data = .cell (some (.ref D))) (hdi : IntsAre dz dn) (hdl : dn.length ≤ 63) (hk0 : 0 ≤ k) (hk1 : k ≤ 100) (ho : Asc [L + 1, D, kp, vd, v, rd, r, d0, d1, d2, d3, tb9] ∧ @LT.lt Nat _ (l) D ∧ @LT.lt Nat _ (sg) kp) (hsg : Apart D sg) (hrt : ToldEs f0 f1 f2 f3 res) (hd0 : o0.IsDictOf (PySem.intKind PySem.Challenge.rw_oj0027_01.row.prog w) kv0) (hs0 : (d0 == sysModules) = false) (hd1 : o1.IsDictOf (PySem.intKind PySem.Challenge.rw_oj0027_01.row.prog w) kv1) (hs1 : (d1 == sysModules) = false) (hd2 : o2.IsDictOf (PySem.intKind PySem.Challenge.rw_oj0027_01.row.prog w) kv2) (hs2 : (d2 == sysModules) = false) (hd3 : o3.IsDictOf (PySem.intKind PySem.Challenge.rw_oj0027_01.row.prog w) kv3) (hs3 : (d3 == sysModules) = false) (hz0 : kv0 = []) (hz1 : kv1 = []) (hz2 : kv2 = []) (hz3 : kv3 = []) (hvw : ViewAt 88 ves sg b) (hpl : PlainAt 88 ves) (hi1 : IntsAre ys ns) (hi2 : IntsAre zs ns) (hl1 : ns.length ≤ 20) (hb0 : 0 ≤ b) (hb1 : b ≤ 100)
    (hQ : ∀ h' tk' m', Fr h₀ L h' m' → Q (.ret (.bool true)) { s with heap := h', toks := tk' }) :
    wpAny (model PySem.Challenge.rw_oj0027_01.row.prog w) (ktrTop dp un gd (Str.ofString "law") lawScope L a ccd [(Str.ofString "deck", L + 1)] outer) (execs (lawBody.drop 6) (envX (Str.ofString "law") lawScope L a ccd [(Str.ofString "deck", L + 1)])) Q E s := by
  obtain ⟨ho, ho1, ho2⟩ := ho
  show wpAny (model PySem.Challenge.rw_oj0027_01.row.prog w) (ktrTop dp un gd (Str.ofString "law") { kind := _, names := _, isGenerator := _, isCoroutine := _, more := _ } L a ccd [(Str.ofString "deck", L + 1)] outer) (execs ([_] ++ lawBody.drop 7) (envX (Str.ofString "law") { kind := _, names := _, isGenerator := _, isCoroutine := _, more := _ } L a ccd [(Str.ofString "deck", L + 1)])) Q E s
  refine wpAny_noRaise ?_
  refine execs_cut ?_
  subst hz0 hz1 hz2 hz3
  (repeat' (first
    | (k_here; k_dflt ((with_reducible show wpAny _ _ (call (Value.ref _) _) _ _ _); first
      | ((with_reducible show wpAny _ _ (call (Value.ref 607) _) _ _ _); apply draw_call; (case hk => first | exact rfl | assumption); (case B => k_asm); (case F => k_asm); (case X => k_asm); (case N => k_asm); (case T => k_asm); (case hdp => ktr_room); (case hun => units_room); (case hD => k_mem); (case hl => k_mem); (case hne => k_ne); (case hi => assumption); (case hlen => assumption); (case hk0 => walk_at "MINE om"); (case hk1 => walk_at "MINE om"); (case hm0 => walk_at "MINE om"); (case hm1 => walk_at "MINE om"); k_whole; intro r₉ tr₉ t₉ h₉ tk₉ hr0₉ hr1₉ F₉ hN₉; (have N₉ := hN₉ _ (updF_done (by k_updF) _)); clear hN₉; (try dsimp only at N₉))
      ); (try dsimp only); (try k_fold))
    | (k_unfold; (try dsimp only)) | (k_end; wrow_close) | walk1 | (dsimp only; walk1) | (leave1; walk_say "STEP leave1"; try dsimp only) | fail "no step"))
  all_goals (try dsimp only)
  refine Rest.mk ?_
  rename Fr _ _ _ _ => F9
  rename News _ _ _ _ => N9
  rename IsRange _ _ _ _ _ _ _ _ => rg9
  refine iter_rangeJ (fun i m nx => ∃ k9 t9 p0 p1 p2 p3 q0 q1 q2 q3, nx = [(L + 1, oc), (D, listOf #[.ref l, .int k9 t9] nd), (l, listOf dz.toArray cl), (v, instObj 88 vd), (vd, dictOf ves 2), (sg, listOf ys.toArray c1), (kp, listOf zs.toArray c2), (r, instObj 178 rd), (rd, dictOf res 6), (tb9, listOf #[.ref d0, .ref d1, .ref d2, .ref d3] c3), (d0, p0), (d1, p1), (d2, p2), (d3, p3)] ∧ 0 ≤ k9 ∧ k9 ≤ k + 1 + 2 * (i : Int) ∧ Obj.IsDictOf (PySem.intKind PySem.Challenge.rw_oj0027_01.row.prog w) p0 q0 ∧ Obj.IsDictOf (PySem.intKind PySem.Challenge.rw_oj0027_01.row.prog w) p1 q1 ∧ Obj.IsDictOf (PySem.intKind PySem.Challenge.rw_oj0027_01.row.prog w) p2 q2 ∧ Obj.IsDictOf (PySem.intKind PySem.Challenge.rw_oj0027_01.row.prog w) p3 q3 ∧ q0.length ≤ i ∧ q1.length ≤ i ∧ q2.length ≤ i ∧ q3.length ≤ i ∧ ∀ y, y ≠ Str.ofString "nth" → [Str.ofString "way", Str.ofString "place"].contains y = false → m y = (fun y => if y = Str.ofString "signs" then some (.ref sg) else if y = Str.ofString "kept" then some (.ref kp) else if y = Str.ofString "own_view" then some (.ref v) else if y = Str.ofString "first" then some (.int b tb) else if y = Str.ofString "rich" then some (.ref r) else if y = Str.ofString "tables" then some (.ref tb9) else u y) y) (by rfl) rg9 (small_one (by walk_at "MINE om") (by walk_at "MINE om") (by walk_at "MINE om") (by walk_at "MINE om")) (rangeSize_nat _ _) F9 (news_sub N9 (by lcg_sub)) ⟨_, _, _, _, _, _, _, _, _, _, rfl, by walk_at "MINE om", by walk_at "MINE om", hd0, hd1, hd2, hd3, Nat.le_refl _, Nat.le_refl _, Nat.le_refl _, Nat.le_refl _, fun _ _ _ => rfl⟩ (fun i m nx hJ => ?_) (fun I i t9 m₁ nx h9 tk9 o9 hi9 hlt9 hJ9 F' N' => ?_) (fun m₁ nx h9 tk9 hJ9 F' N' => ?_)
  · obtain ⟨_, _, _, _, _, _, _, _, _, _, rfl, _⟩ := hJ
    rfl
  · obtain ⟨k', t', p0, p1, p2, p3, q0, q1, q2, q3, rfl, hk0', hk1', hd0', hd1', hd2', hd3', hl0', hl1', hl2', hl3', hm'⟩ := hJ9
    rw [frame_keep hm'] at F'
    clear hm' F9 N9 hd0 hd1 hd2 hd3 rg9
    k_lt hlt9
    have hi6 : i ≤ 6 := by walk_at "MINE om"
    have hk6 : k' ≤ 120 := by walk_at "MINE om"
    have hq0 := Nat.le_trans hl0' hi6
    have hq1 := Nat.le_trans hl1' hi6
    have hq2 := Nat.le_trans hl2' hi6
    have hq3 := Nat.le_trans hl3' hi6
    obtain ⟨e, he⟩ : ∃ e : Int, e = 0 + (i : Int) := ⟨_, rfl⟩
    rw [← he] at F'
    try dsimp only at F'
    (repeat' (first
      | (k_here; k_dflt ((with_reducible show wpAny _ _ (call (Value.ref _) _) _ _ _); first
        | ((with_reducible show wpAny _ _ (call (Value.ref 607) _) _ _ _); apply draw_call; (case hk => first | exact rfl | assumption); (case B => k_asm); (case F => k_asm); (case X => k_asm); (case N => k_asm); (case T => k_asm); (case hdp => ktr_room); (case hun => units_room); (case hD => k_mem); (case hl => k_mem); (case hne => k_ne); (case hi => assumption); (case hlen => assumption); (case hk0 => walk_at "MINE om"); (case hk1 => walk_at "MINE om"); (case hm0 => walk_at "MINE om"); (case hm1 => walk_at "MINE om"); k_whole; intro r₉ tr₉ t₉ h₉ tk₉ hr0₉ hr1₉ F₉ hN₉; (have N₉ := hN₉ _ (updF_done (by k_updF) _)); clear hN₉; (try dsimp only at N₉))
        ); (try dsimp only); (try k_fold))
      | (k_unfold; (try dsimp only)) | (k_end; wrow_close) | walk1 | (dsimp only; walk1) | (leave1; walk_say "STEP leave1"; try dsimp only) | fail "no step"))
    all_goals (try dsimp only)
    all_goals (
      rename Fr _ _ _ _ => F9
      rename News _ _ _ _ => N9
      refine TurnJ.intro F9 N9 (nx := [(L + 1, oc), (D, listOf #[.ref l, .int _ _] nd), (l, listOf dz.toArray cl), (v, instObj 88 vd), (vd, dictOf ves 2), (sg, listOf ys.toArray c1), (kp, listOf zs.toArray c2), (r, instObj 178 rd), (rd, dictOf res 6), (tb9, listOf #[.ref d0, .ref d1, .ref d2, .ref d3] c3), (d0, _), (d1, _), (d2, _), (d3, _)]) (by lcg_sub) ⟨_, _, _, _, _, _, _, _, _, _, rfl, by walk_at "MINE om", by walk_at "MINE om", by assumption, by assumption, by assumption, by assumption, by first | exact Nat.le_succ_of_le (by assumption) | exact Nat.le_trans (stored_length_le _ _ _) (Nat.succ_le_succ (by assumption)) | walk_at "MINE om", by first | exact Nat.le_succ_of_le (by assumption) | exact Nat.le_trans (stored_length_le _ _ _) (Nat.succ_le_succ (by assumption)) | walk_at "MINE om", by first | exact Nat.le_succ_of_le (by assumption) | exact Nat.le_trans (stored_length_le _ _ _) (Nat.succ_le_succ (by assumption)) | walk_at "MINE om", by first | exact Nat.le_succ_of_le (by assumption) | exact Nat.le_trans (stored_length_le _ _ _) (Nat.succ_le_succ (by assumption)) | walk_at "MINE om", ?_⟩
      intro y h1 h2
      have ha : ¬ y = Str.ofString "way" := fun e => by subst e; exact absurd h2 (by decide)
      have hb : ¬ y = Str.ofString "place" := fun e => by subst e; exact absurd h2 (by decide)
      simp only [if_neg ha, if_neg hb, if_neg h1, h2, Bool.false_eq_true, if_false])
  · obtain ⟨k', t', p0, p1, p2, p3, q0, q1, q2, q3, rfl, hk0', hk1', hd0', hd1', hd2', hd3', hl0', hl1', hl2', hl3', hm'⟩ := hJ9
    rw [frame_keep hm'] at F'
    clear hm' F9 N9 hd0 hd1 hd2 hd3 rg9
    try dsimp only at F'
    try dsimp only
    (repeat' (first
      | (k_here; k_dflt ((with_reducible show wpAny _ _ (call (Value.ref _) _) _ _ _); first
        | ((with_reducible show wpAny _ _ (call (Value.ref 607) _) _ _ _); apply draw_call; (case hk => first | exact rfl | assumption); (case B => k_asm); (case F => k_asm); (case X => k_asm); (case N => k_asm); (case T => k_asm); (case hdp => ktr_room); (case hun => units_room); (case hD => k_mem); (case hl => k_mem); (case hne => k_ne); (case hi => assumption); (case hlen => assumption); (case hk0 => walk_at "MINE om"); (case hk1 => walk_at "MINE om"); (case hm0 => walk_at "MINE om"); (case hm1 => walk_at "MINE om"); k_whole; intro r₉ tr₉ t₉ h₉ tk₉ hr0₉ hr1₉ F₉ hN₉; (have N₉ := hN₉ _ (updF_done (by k_updF) _)); clear hN₉; (try dsimp only at N₉))
        ); (try dsimp only); (try k_fold))
      | (k_unfold; (try dsimp only)) | (k_end; wrow_close) | walk1 | (dsimp only; walk1) | (leave1; walk_say "STEP leave1"; try dsimp only) | fail "no step"))
    all_goals (try dsimp only)
    refine Rest.mk ?_
    rename Fr _ _ _ _ => F9
    rename News _ _ _ _ => N9
    refine law_7 B (fr_put (fr_put (fr_put (fr_put (fr_put (fr_put F9 (x := Str.ofString "tables") rfl) (x := Str.ofString "rich") rfl) (x := Str.ofString "first") rfl) (x := Str.ofString "own_view") rfl) (x := Str.ofString "kept") rfl) (x := Str.ofString "signs") rfl) X (news_sub N9 (by lcg_sub)) T hdp hun hoc hdi hdl hk0' (by walk_at "MINE om") (by walk_at "MINE ord") hsg hrt hd0' hs0 hd1' hs1 hd2' hs2 hd3' hs3 hvw hpl hi1 hi2 hl1 hb0 hb1 (fun h' tk' m' F' => hQ h' tk' m' F')
end
end PartP6

section PartP2
theorem text_viewM {w : World} {dp un : Nat} {gd : Option (List Code)} {cn : Str} {cs : Scope} {L a : Addr} {ccd : Value} {cl : List (Str × Addr)} {outer : List Env} {A₀ : Around} {base h₀ : Heap} {m mg mb : Str → Option Value} {news : List (Addr × Obj)} {s : Shared} {loose : List Str} {mean : ExcName → Option Value} {Q E : Value → Shared → Prop}
    {C v vd sg kp : Addr} {es : List DictEntry} {n c c' : Nat} {b : Int} {ys zs : List Value} {ns : List Int} {tb : Tok}
    (B : Below A₀ base outer h₀) (F : Fr h₀ L s.heap m) (X : (hd.heap_39 w.params).In h₀) (N : News h₀ L s.heap news) (T : Top hd.view_39 loose mean mg mb h₀) (hk : cs.kind = .function) (hdp : dp + 4 < recursionLimit) (hun : un + 100 < cLine)
    (m1 : (v, instObj C vd) ∈ news) (m2 : (vd, dictOf es n) ∈ news) (hv : ViewAt C es sg b) (m3 : (sg, listOf ys.toArray c) ∈ news) (m4 : (kp, listOf zs.toArray c') ∈ news)
    (hi : IntsAre ys ns) (hi' : IntsAre zs ns) (hlen : ns.length ≤ 1000) (hb0 : 0 ≤ b) (hb1 : b ≤ 1000)
    (ret : ∀ h' tk', Fr h₀ L h' m → News h₀ L h' news → Q (.bool true) { s with heap := h', toks := tk' }) :
    wpAny (model PySem.Challenge.rw_oj0027_01.row.prog w) (ktrTop dp un gd cn cs L a ccd cl outer) (call (.ref 612) [.ref v, .int b tb, .ref kp]) Q E s :=
  text_view hv B F X N T hk hdp hun hi hi' hlen hb0 hb1 (List.forall_mem_cons.mpr ⟨m1, List.forall_mem_cons.mpr ⟨m2, List.forall_mem_cons.mpr ⟨m3, List.forall_mem_cons.mpr ⟨m4, List.forall_mem_nil _⟩⟩⟩⟩) ret
local macro_rules | `(tactic| walk_at "ite") => `(tactic| first | with_reducible refine ite_tt ?_ | with_reducible refine ite_ff ?_ | (k_closed; k_dflt (first | refine ite_pos (by decide) ?_ | refine ite_neg (by decide) ?_)))

section
variable {w : World} {dp un : Nat} {gd : Option (List Code)} {L a : Addr} {ccd : Value} {outer : List Env} {A₀ : Around} {base h₀ : Heap} {mg mb u : Str → Option Value} {s : Shared} {loose : List Str} {mean : ExcName → Option Value} {Q : Flow → Shared → Prop} {E : Value → Shared → Prop}

set_option maxHeartbeats 8000000 in
theorem law_2 {l D : Addr} {oc : Obj} {k : Int} {tkk : Tok} {nd cl : Nat} {dz : List Value} {dn : List Int} {sg : Addr} {ys : List Value} {ns : List Int} {c1 : Nat} 
    (B : Below A₀ base outer h₀) (F : Fr h₀ L s.heap (fun y => if y = Str.ofString "signs" then some (.ref sg) else u y)) (X : (hd.heap_39 w.params).In h₀) (N : News h₀ L s.heap [(L + 1, oc), (D, listOf #[.ref l, .int k tkk] nd), (l, listOf dz.toArray cl), (sg, listOf ys.toArray c1)]) (T : Top hd.view_39 loose mean mg mb h₀) (hdp : dp + 40 < recursionLimit) (hun : un + 1000 < cLine)
    (hoc : oc.data = .cell (some (.ref D))) (hdi : IntsAre dz dn) (hdl : dn.length ≤ 63) (hk0 : 0 ≤ k) (hk1 : k ≤ 50) (ho : @LT.lt Nat _ (L + 1) D ∧ @LT.lt Nat _ l D) (hsg : Apart D sg) (hi1 : IntsAre ys ns) (hl1 : ns.length ≤ 20)
    (hQ : ∀ h' tk' m', Fr h₀ L h' m' → Q (.ret (.bool true)) { s with heap := h', toks := tk' }) :
    wpAny (model PySem.Challenge.rw_oj0027_01.row.prog w) (ktrTop dp un gd (Str.ofString "law") lawScope L a ccd [(Str.ofString "deck", L + 1)] outer) (execs (lawBody.drop 2) (envX (Str.ofString "law") lawScope L a ccd [(Str.ofString "deck", L + 1)])) Q E s := by
  show wpAny (model PySem.Challenge.rw_oj0027_01.row.prog w) (ktrTop dp un gd (Str.ofString "law") { kind := _, names := _, isGenerator := _, isCoroutine := _, more := _ } L a ccd [(Str.ofString "deck", L + 1)] outer) (execs ([_, _, _, _] ++ lawBody.drop 6) (envX (Str.ofString "law") { kind := _, names := _, isGenerator := _, isCoroutine := _, more := _ } L a ccd [(Str.ofString "deck", L + 1)])) Q E s
  refine wpAny_noRaise ?_
  refine execs_cut ?_
  (repeat' (first
    | (with_reducible refine toks_off ?_; intro tk₉)
    | (k_here; k_dflt ((with_reducible show wpAny _ _ (call (Value.ref _) _) _ _ _); first
      | ((with_reducible show wpAny _ _ (call (Value.ref 607) _) _ _ _); apply draw_call; (case hk => first | exact rfl | assumption); (case B => k_asm); (case F => k_asm); (case X => k_asm); (case N => k_asm); (case T => k_asm); (case hdp => ktr_room); (case hun => units_room); (case hD => k_mem); (case hl => k_mem); (case hne => k_ne); (case hi => assumption); (case hlen => assumption); (case hk0 => walk_at "MINE om"); (case hk1 => walk_at "MINE om"); (case hm0 => walk_at "MINE om"); (case hm1 => walk_at "MINE om"); k_whole; intro r₉ tr₉ t₉ h₉ tk₉ hr0₉ hr1₉ F₉ hN₉; (have N₉ := hN₉ _ (updF_done (by k_updF) _)); clear hN₉; (try dsimp only at N₉))
      | ((with_reducible show wpAny _ _ (call (Value.ref 612) _) _ _ _); apply text_viewM; (case hk => first | exact rfl | assumption); (case B => k_asm); (case F => k_asm); (case X => k_asm); (case N => k_asm); (case T => k_asm); (case hdp => ktr_room); (case hun => units_room); (case m1 => k_mem); (case m2 => k_mem); (case hv => first | assumption | exact Or.inl ⟨rfl, _, _, _, _, _, rfl⟩ | exact Or.inr ⟨rfl, _, _, _, _, _, _, _, _, _, _, _, _, _, _, _, _, _, rfl⟩ | fail "view"); (case m3 => k_mem); (case m4 => k_mem); (case hi => assumption); (case hi' => first | assumption | l_intsW | l_ints); (case hlen => walk_at "MINE om"); (case hb0 => walk_at "MINE om"); (case hb1 => walk_at "MINE om"); k_whole; intro h₉ tk₉ F₉ N₉; skip)
      ); (try dsimp only); (try k_fold))
    | (k_unfold; (try dsimp only)) | (k_end; wrow_close) | walk1 | (dsimp only; walk1) | (leave1; walk_say "STEP leave1"; try dsimp only) | fail "no step"))
  all_goals (try dsimp only)
  refine Rest.mk ?_
  rename Fr _ _ _ _ => F9
  rename News _ _ _ _ => N9
  refine law_6 B (fr_put (fr_put (fr_put (fr_put (fr_put (fr_put F9 (x := Str.ofString "tables") rfl) (x := Str.ofString "rich") rfl) (x := Str.ofString "first") rfl) (x := Str.ofString "own_view") rfl) (x := Str.ofString "kept") rfl) (x := Str.ofString "signs") rfl) X (news_sub N9 (by lcg_sub)) T hdp hun hoc hdi hdl (by walk_at "MINE om") (by walk_at "MINE om") (by walk_at "MINE ord") hsg ⟨_, _, _, _, _, _, _, _, _, _, _, _, _, _, rfl⟩ (by assumption) (by assumption) (by assumption) (by assumption) (by assumption) (by assumption) (by assumption) (by assumption) rfl rfl rfl rfl (Or.inl ⟨rfl, _, _, _, _, _, rfl⟩) (Or.inl ⟨rfl, _, _, _, _, _, _, rfl⟩) hi1 (by first | assumption | l_intsW | l_ints) (by walk_at "MINE om") (by walk_at "MINE om") (by walk_at "MINE om") (fun h' tk' m' F' => hQ h' tk' m' F')
end
end PartP2

section PartP1
theorem wp_rest {α : Type} {M : Model} {A : Around} {t : Sem α} {Q : α → Shared → Prop} {E : Value → Shared → Prop} {s : Shared} (h : wpAny M A t (fun y s' => Rest (Q y s')) E s) : wpAny M A t Q E s :=
  wpAny_mono h (fun _ _ r => r.out) fun _ _ e => e
theorem Assign_comp_rest {prog : Program} {w : World} {A : Around} {E : Value → Shared → Prop} {s : Shared} {h₀ : Heap} {L : Addr} {m : Str → Option Value} {env : Env} {elt iter : PySem.Expr} {x y : Str} {px py : Pos} {scope : Scope} {cl : List (Str × Addr)} {pos spos : Pos} {Q : Flow → Shared → Prop} (F₀ : Fr h₀ L s.heap m) (hLe : env.locals = L)
    (hsw : swapsWith (.ListComp elt [⟨.Name x px, iter, [], 0⟩] scope pos) (some (.Name y py)) spos.line env = pure true)
    (hclos : closureFor scope env = pure cl) (hcell : ∀ z ∈ scope.names, z.2 ≠ .cell) (hkind : scope.kind = .function)
    (hnames : ∀ z ∈ scope.names, z.2 = .local → scope.names.lookup z.1 = some .local) (hx : scope.names.lookup x = some .local)
    (hy : env.kindOf y = some .local) (hp : (env.scope.kind == .class || (env.scope.kind == .module && env.locals != env.globals)) = false)
    (h : wpAny (model prog w) A (eval iter env) (fun xv s₁ => Rest (LCg.CompSrc prog w A h₀ L m env elt x scope cl (fun s₂ => LCg.FinA h₀ L m s₂ y Q) xv s₁)) E s)
    (hs : ∀ x, foldedSetIterable iter env x = pure x := by intro _; rfl) :
    wpAny (model prog w) A (exec (.Assign [.Name y py] (.ListComp elt [⟨.Name x px, iter, [], 0⟩] scope pos) spos) env) Q E s :=
  LCg.Assign_ListComp_U F₀ hLe hsw hclos hcell hkind hnames hx hy hp (wp_rest h) hs
theorem off_apart {I C D : Addr} {p : Addr × Obj} {l : List (Addr × Obj)} (h : LCg.Off3 I C D (p :: l)) : (Apart p.1 I ∧ Apart p.1 C ∧ Apart p.1 D) ∧ LCg.Off3 I C D l := h
local macro_rules | `(tactic| walk_at "exec Assign cons ListComp") => `(tactic| (k_here; k_dflt (refine' Assign_comp_rest ?F0 ?k1 ?k2 ?k3 ?k4 ?k5 ?k6 ?k7 ?k8 ?k9 ?_; (case F0 => k_asm); (case k1 => rfl); (case k2 => with_unfolding_all rfl); (case k3 => rfl); (case k4 => decide); (case k5 => rfl); (case k6 => decide); (case k7 => rfl); (case k8 => rfl); (case k9 => rfl); k_whole)))

section
variable {w : World} {dp un : Nat} {gd : Option (List Code)} {L a : Addr} {ccd : Value} {outer : List Env} {A₀ : Around} {base h₀ : Heap} {mg mb u : Str → Option Value} {s : Shared} {loose : List Str} {mean : ExcName → Option Value} {Q : Flow → Shared → Prop} {E : Value → Shared → Prop}

set_option maxHeartbeats 8000000 in
theorem law_1 {l D : Addr} {oc : Obj} {k : Int} {tkk : Tok} {nd cl : Nat} {dz : List Value} {dn : List Int} 
    (B : Below A₀ base outer h₀) (F : Fr h₀ L s.heap (fun y =>  u y)) (X : (hd.heap_39 w.params).In h₀) (N : News h₀ L s.heap [(L + 1, oc), (D, listOf #[.ref l, .int k tkk] nd), (l, listOf dz.toArray cl)]) (T : Top hd.view_39 loose mean mg mb h₀) (hdp : dp + 40 < recursionLimit) (hun : un + 1000 < cLine)
    (hoc : oc.data = .cell (some (.ref D))) (hdi : IntsAre dz dn) (hdl : dn.length ≤ 63) (hk0 : 0 ≤ k) (hk1 : k ≤ 10) (ho : @LT.lt Nat _ (L + 1) D ∧ @LT.lt Nat _ l D)
    (hQ : ∀ h' tk' m', Fr h₀ L h' m' → Q (.ret (.bool true)) { s with heap := h', toks := tk' }) :
    wpAny (model PySem.Challenge.rw_oj0027_01.row.prog w) (ktrTop dp un gd (Str.ofString "law") lawScope L a ccd [(Str.ofString "deck", L + 1)] outer) (execs (lawBody.drop 1) (envX (Str.ofString "law") lawScope L a ccd [(Str.ofString "deck", L + 1)])) Q E s := by
  show wpAny (model PySem.Challenge.rw_oj0027_01.row.prog w) (ktrTop dp un gd (Str.ofString "law") { kind := _, names := _, isGenerator := _, isCoroutine := _, more := _ } L a ccd [(Str.ofString "deck", L + 1)] outer) (execs ([_] ++ lawBody.drop 2) (envX (Str.ofString "law") { kind := _, names := _, isGenerator := _, isCoroutine := _, more := _ } L a ccd [(Str.ofString "deck", L + 1)])) Q E s
  refine wpAny_noRaise ?_
  refine execs_cut ?_
  (repeat' (first
    | (k_here; k_dflt ((with_reducible show wpAny _ _ (call (Value.ref _) _) _ _ _); first
      | ((with_reducible show wpAny _ _ (call (Value.ref 607) _) _ _ _); apply draw_call; (case hk => first | exact rfl | assumption); (case B => k_asm); (case F => k_asm); (case X => k_asm); (case N => k_asm); (case T => k_asm); (case hdp => ktr_room); (case hun => units_room); (case hD => k_mem); (case hl => k_mem); (case hne => k_ne); (case hi => assumption); (case hlen => assumption); (case hk0 => walk_at "MINE om"); (case hk1 => walk_at "MINE om"); (case hm0 => walk_at "MINE om"); (case hm1 => walk_at "MINE om"); k_whole; intro r₉ tr₉ t₉ h₉ tk₉ hr0₉ hr1₉ F₉ hN₉; (have N₉ := hN₉ _ (updF_done (by k_updF) _)); clear hN₉; (try dsimp only at N₉))
      ); (try dsimp only); (try k_fold))
    | (k_unfold; (try dsimp only)) | (k_end; wrow_close) | walk1 | (dsimp only; walk1) | (leave1; walk_say "STEP leave1"; try dsimp only) | fail "no step"))
  all_goals (try dsimp only)
  refine Rest.mk ?_
  rename Fr _ _ _ _ => F9
  rename News _ _ _ _ => N9
  rename IsRange _ _ _ _ _ _ _ _ => rg9
  refine LCg.CompSrc.range (by rfl) F9 (news_sub (news' := [(L + 1, oc), (D, listOf #[.ref l, .int _ _] nd), (l, listOf dz.toArray cl)]) N9 (by lcg_sub)) rg9 (small_one (by walk_at "MINE om") (by walk_at "MINE om") (by walk_at "MINE om") (by walk_at "MINE om")) (rangeSize_nat _ _) (by rw [sizeLine_eq]; walk_at "MINE om") ?_
  intro g'
  refine comp_ind (fun i ys nw => ∃ ms k9 t9, nw = [(L + 1, oc), (D, listOf #[.ref l, .int k9 t9] nd), (l, listOf dz.toArray cl)] ∧ IntsAre ys ms ∧ ms.length = i ∧ 0 ≤ k9 ∧ k9 ≤ k + 1 + (i : Int)) ⟨[], _, _, rfl, IntsAre.nil, rfl, by walk_at "MINE om", by walk_at "MINE om"⟩ (fun ys nw hJ => ?_) (fun i ys nw hi hJ v I oI C oC D9 m₂ h9 tk9 E' hv' hC' hx' F' N' off' ne' => ?_)
  · obtain ⟨ms, k9, t9, rfl, hys, hlen, hk9, hk9'⟩ := hJ
    unfold LCg.FinA
    intro D' h' tk' F' N' o1'
    have hsg : Apart D D' := o1'.2.1
    clear o1' F9 N9 rg9
    try dsimp only
    (repeat' (first
      | (k_here; k_dflt ((with_reducible show wpAny _ _ (call (Value.ref _) _) _ _ _); first
        | ((with_reducible show wpAny _ _ (call (Value.ref 607) _) _ _ _); apply draw_call; (case hk => first | exact rfl | assumption); (case B => k_asm); (case F => k_asm); (case X => k_asm); (case N => k_asm); (case T => k_asm); (case hdp => ktr_room); (case hun => units_room); (case hD => k_mem); (case hl => k_mem); (case hne => k_ne); (case hi => assumption); (case hlen => assumption); (case hk0 => walk_at "MINE om"); (case hk1 => walk_at "MINE om"); (case hm0 => walk_at "MINE om"); (case hm1 => walk_at "MINE om"); k_whole; intro r₉ tr₉ t₉ h₉ tk₉ hr0₉ hr1₉ F₉ hN₉; (have N₉ := hN₉ _ (updF_done (by k_updF) _)); clear hN₉; (try dsimp only at N₉))
        ); (try dsimp only); (try k_fold))
      | (k_unfold; (try dsimp only)) | (k_end; wrow_close) | walk1 | (dsimp only; walk1) | (leave1; walk_say "STEP leave1"; try dsimp only) | fail "no step"))
    all_goals (try dsimp only)
    refine Rest.mk ?_
    rename Fr _ _ _ _ => F9
    rename News _ _ _ _ => N9
    refine law_2 B (fr_put F9 (x := Str.ofString "signs") rfl) X (news_sub N9 (by lcg_sub)) T hdp hun hoc hdi hdl hk9 (by walk_at "MINE om") (by walk_at "MINE ord") hsg hys (by walk_at "MINE om") (fun h' tk' m' F' => hQ h' tk' m' F')
  · obtain ⟨ms, k9, t9, rfl, hys, hlen, hk9, hk9'⟩ := hJ
    obtain ⟨⟨a1, a2, a3⟩, off'⟩ := off_apart off'
    obtain ⟨⟨b1, b2, b3⟩, off'⟩ := off_apart off'
    obtain ⟨⟨c1, c2, c3⟩, off'⟩ := off_apart off'
    clear off' F9 N9 rg9
    replace a1 : Apart (L + 1) I := a1
    replace a2 : Apart (L + 1) C := a2
    replace a3 : Apart (L + 1) D9 := a3
    replace b1 : Apart D I := b1
    replace b2 : Apart D C := b2
    replace b3 : Apart D D9 := b3
    replace c1 : Apart l I := c1
    replace c2 : Apart l C := c2
    replace c3 : Apart l D9 := c3
    have d1 : Apart I C := ne'.1
    have d2 : Apart I D9 := ne'.2.1
    have d3 : Apart C D9 := ne'.2.2
    clear ne'
    obtain ⟨t8, hv8⟩ := hv'
    subst hv8
    (repeat' (first
      | (k_here; k_dflt ((with_reducible show wpAny _ _ (call (Value.ref _) _) _ _ _); first
        | ((with_reducible show wpAny _ _ (call (Value.ref 607) _) _ _ _); apply draw_call; (case hk => first | exact rfl | assumption); (case B => k_asm); (case F => k_asm); (case X => k_asm); (case N => k_asm); (case T => k_asm); (case hdp => ktr_room); (case hun => units_room); (case hD => k_mem); (case hl => k_mem); (case hne => k_ne); (case hi => assumption); (case hlen => assumption); (case hk0 => walk_at "MINE om"); (case hk1 => walk_at "MINE om"); (case hm0 => walk_at "MINE om"); (case hm1 => walk_at "MINE om"); k_whole; intro r₉ tr₉ t₉ h₉ tk₉ hr0₉ hr1₉ F₉ hN₉; (have N₉ := hN₉ _ (updF_done (by k_updF) _)); clear hN₉; (try dsimp only at N₉))
        ); (try dsimp only); (try k_fold))
      | (k_unfold; (try dsimp only)) | (k_end; wrow_close) | walk1 | (dsimp only; walk1) | (leave1; walk_say "STEP leave1"; try dsimp only) | fail "no step"))
    all_goals (try dsimp only)
    refine Rest.mk ?_
    rename Fr _ _ _ _ => F9
    rename News _ _ _ _ => N9
    refine LCg.CompEnd.intro F9 N9 [(L + 1, oc), (D, listOf #[.ref l, .int _ _] nd), (l, listOf dz.toArray cl)] (by lcg_sub) ⟨⟨a1, a2, a3⟩, ⟨b1, b2, b3⟩, ⟨c1, c2, c3⟩, trivial⟩ True.intro ⟨ms ++ [_], _, _, rfl, hys.append (IntsAre.cons _ _ IntsAre.nil), by rw [List.length_append, hlen]; rfl, by walk_at "MINE om", by walk_at "MINE om"⟩
end
end PartP1

end Mine

section PartMain
set_option maxHeartbeats 8000000 in
theorem PySem.Challenge.cw_oj0027_01_holds : PySem.Challenge.rw_oj0027_01.Holds := by
  refine Mine.hd ?_
  k_go0
  all_goals try k_fold
  show wpAny (model PySem.Challenge.rw_oj0027_01.row.prog _) (ktrTop _ _ _ (Str.ofString "law") { kind := _, names := _, isGenerator := _, isCoroutine := _, more := _ } _ _ _ [(Str.ofString "deck", _)] _) (execs ([_] ++ Mine.lawBody.drop 1) (envX (Str.ofString "law") { kind := _, names := _, isGenerator := _, isCoroutine := _, more := _ } _ _ _ [(Str.ofString "deck", _)])) _ _ _
  refine Mine.execs_cut ?_
  k_steps
  all_goals (try dsimp only)
  refine Mine.Rest.mk ?_
  rename Fr _ _ _ _ => F9
  rename News _ _ _ _ => N9
  rename Below _ _ _ _ => B9
  refine' Mine.law_1 ?B F9 ?X (Mine.news_sub N9 (by lcg_sub)) ?T ?hdp ?hun ?hoc ?hdi ?hdl ?hk0 ?hk1 ?ho ?hQ
  case B => k_asm
  case X => k_asm
  case T => k_asm
  case hoc => assumption
  case hdi => assumption
  case hdl => (rw [List.length_map, List.length_take]; omega)
  case hdp => decide +kernel
  case hun => decide +kernel
  case hk0 => decide
  case hk1 => decide
  case ho => (repeat' apply And.intro) <;> omega
  case hQ =>
    intro h' tk' m' F'
    clear F9 N9
    k_steps
end PartMain
